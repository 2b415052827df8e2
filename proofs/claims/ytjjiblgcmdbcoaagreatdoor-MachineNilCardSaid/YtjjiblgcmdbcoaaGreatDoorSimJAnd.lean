/- Sim: maps made, looked up, written. -/
import Derived.Test.YtjjiblgcmdbcoaaGreatDoorSimIOne
set_option linter.unusedVariables false
set_option linter.unusedSimpArgs false
namespace Go.Sim
open Go Go.RowKit
open Go.Abs (TE TK SK TOK TFacts D RdD)

section
variable {P : Program} {T : Nat → TE} {w0 : World} {ng : Nat}

theorem mapK_ok {k : TK} {K : Nat → Nat → R} {e r : R} (h : mapK k K e = r) (he : e ≠ r) : ∃ a b, k = .map a b ∧ K a b = r := by
  cases k <;> first | exact ⟨_, _, rfl, h⟩ | exact absurd h he

/-! keys as data -/
theorem keyFit_ok {te : TE} {k : V} (h : keyFit te k = true) : te.known = true ∧ (!te.ks.isEmpty) = true ∧ fits te.ks (cellsOf k) = true ∧ asAgg k (fun _ => true) false = te.k.isAgg := by
  obtain ⟨h1, h2⟩ := and_ok h
  obtain ⟨h3, h4⟩ := and_ok h1
  obtain ⟨h5, h6⟩ := and_ok h2
  refine ⟨h3, h4, h5, ?_⟩
  revert h6
  generalize asAgg k (fun _ => true) false = b
  intro h6
  cases b <;> cases h : te.k.isAgg <;> rw [h] at h6 <;> first | rfl | cases h6

theorem fits_one {ks : List SK} : ∀ {cs : List V}, fits ks cs = true → List.all cs one = true := by
  induction ks with
  | nil => intro cs h; cases cs with
    | nil => rfl
    | cons c cs => cases h
  | cons k ks ih => intro cs h; cases cs with
    | nil => rfl
    | cons c cs =>
      obtain ⟨h1, h2⟩ := and_ok h
      rw [List.all_cons, Bool.and_eq_true]
      exact ⟨by cases c <;> first | rfl | (cases k <;> cases h1), ih h2⟩

theorem key_pd {te : TE} {g : Gh} {n : Nat} {k : V} {u : Value} (h : RV g n k u) (hf : keyFit te k = true) : ∃ d : D, (∀ (ok : Nat → Prop) (w : World), RdD ok w u d) ∧ Abs.keyFit te d = true ∧ PDs (cellsOf k) d.cells := by
  obtain ⟨_, _, h3, h4⟩ := keyFit_ok hf
  cases k with
  | agg cs =>
    cases h with
    | agg _ vs q1 q2 q3 =>
      have hh : RVL g n cs vs.toList := ⟨by simpa using q1, fun i c v hc hv => q2 i c v hc (by simpa using hv)⟩
      obtain ⟨ds, p1, p2, p3, p4⟩ := pds_of h3 hh
      have hag : te.k.isAgg = true := h4.symm
      refine ⟨.agg ds, fun ok w => .agg vs ds (by simpa using p3.symm) (fun i c d hc hd => (p4 i c d (by simpa using hc) hd).2.2 ok w) (fun i v d hv hd => ⟨(p4 i v d (by simpa using hv) hd).2.1, (p4 i v d (by simpa using hv) hd).1⟩), ?_, p1⟩
      simp [Abs.keyFit, D.cells, D.one, p2, hag]
  | _ =>
    first
    | (exfalso; simp [cellsOf] at h3; revert h3; cases te.ks <;> simp [fits, fit1] <;> done)
    | (have hsingle : RVL g n [_] [u] := RVL.cons h RVL.nil
       obtain ⟨ds, p1, p2, p3, p4⟩ := pds_of (h3 : fits te.ks [_] = true) hsingle
       match ds, p3 with
       | [d], _ =>
         obtain ⟨r1, r2, r3⟩ := p4 0 u d rfl rfl
         have hag : te.k.isAgg = false := h4.symm
         have hc : d.cells = [d] := by cases d <;> first | rfl | (simp [D.one] at r1)
         exact ⟨d, r3, by simp [Abs.keyFit, hc, r1, p2, hag], by rw [hc]; exact p1⟩)

/-! entries -/
theorem find_none : ∀ {es : List (D × D)} {k : D} {i : Nat}, Abs.findI es k i = none → ∀ (j : Nat) e, es[j]? = some e → Abs.eqCells k.cells e.1.cells = false
  | [], _, _, _, j, e, h => by simp at h
  | x :: es, k, i, hn, j, e, h => by
    unfold Abs.findI at hn
    split at hn
    · cases hn
    · rename_i hx
      cases j with
      | zero => simp at h; subst h; exact hx
      | succ j => exact find_none hn j e (by simpa using h)
theorem find_some : ∀ {es : List (D × D)} {k : D} {i j : Nat} {d : D}, Abs.findI es k i = some (i + j, d) → ∀ (j' : Nat) e, j' < j → es[j']? = some e → Abs.eqCells k.cells e.1.cells = false
  | [], _, _, _, _, h, _, _, _, _ => by simp [Abs.findI] at h
  | x :: es, k, i, j, d, hs, j', e, hj, h => by
    unfold Abs.findI at hs
    split at hs
    · simp at hs; omega
    · rename_i hx
      cases j' with
      | zero => simp at h; subst h; exact hx
      | succ j' => exact find_some (i := i + 1) (j := j - 1) (by rw [hs]; congr 2; omega) j' e (by omega) (by simpa using h)

theorem ent_none : ∀ {es : List (V × V)} {k : V}, (∀ (j : Nat) e, es[j]? = some e → eqV k e.1 = false) → findE es k = none ∧ (∀ v (K : List (V × V) → R), putE es k v K = K (es ++ [(k, v)])) ∧ ∀ (K : List (V × V) → R), delE es k K = K es
  | [], _, _ => ⟨rfl, fun _ _ => rfl, fun _ => rfl⟩
  | x :: es, k, h => by
    obtain ⟨h1, h2, h3⟩ := ent_none (es := es) (k := k) fun j e he => h (j + 1) e (by simpa using he)
    have hx := h 0 x rfl
    refine ⟨?_, fun v K => ?_, fun K => ?_⟩
    · show ite' (eqV k x.1) (some x.2) (findE es k) = none
      rw [hx]; exact h1
    · show ite' (eqV k x.1) (K ((k, v) :: es)) (putE es k v fun es => K (x :: es)) = _
      rw [hx]; exact h2 v _
    · show ite' (eqV k x.1) (K es) (delE es k fun es => K (x :: es)) = _
      rw [hx]; exact h3 _
theorem ent_some : ∀ {es : List (V × V)} {k : V} {j : Nat} {e : V × V}, es[j]? = some e → eqV k e.1 = true → (∀ (j' : Nat) e, j' < j → es[j']? = some e → eqV k e.1 = false) → findE es k = some e.2 ∧ (∀ v (K : List (V × V) → R), putE es k v K = K (es.set j (k, v))) ∧ ∀ (K : List (V × V) → R), delE es k K = K (es.eraseIdx j)
  | [], _, _, _, h, _, _ => by simp at h
  | x :: es, k, 0, e, h, hk, _ => by
    simp at h
    subst h
    refine ⟨?_, fun v K => ?_, fun K => ?_⟩
    · show ite' (eqV k x.1) (some x.2) (findE es k) = _
      rw [hk]; rfl
    · show ite' (eqV k x.1) (K ((k, v) :: es)) (putE es k v fun es => K (x :: es)) = _
      rw [hk]; rfl
    · show ite' (eqV k x.1) (K es) (delE es k fun es => K (x :: es)) = _
      rw [hk]; rfl
  | x :: es, k, j + 1, e, h, hk, hp => by
    obtain ⟨h1, h2, h3⟩ := ent_some (es := es) (k := k) (j := j) (e := e) (by simpa using h) hk fun j' e hj he => hp (j' + 1) e (by omega) (by simpa using he)
    have hx := hp 0 x (by omega) rfl
    refine ⟨?_, fun v K => ?_, fun K => ?_⟩
    · show ite' (eqV k x.1) (some x.2) (findE es k) = _
      rw [hx]; exact h1
    · show ite' (eqV k x.1) (K ((k, v) :: es)) (putE es k v fun es => K (x :: es)) = _
      rw [hx]; exact h2 v _
    · show ite' (eqV k x.1) (K es) (delE es k fun es => K (x :: es)) = _
      rw [hx]; exact h3 _

theorem ent_cases : ∀ (es : List (V × V)) (k : V), (∀ (j : Nat) e, es[j]? = some e → eqV k e.1 = false) ∨ ∃ (j : Nat) (e : V × V), es[j]? = some e ∧ eqV k e.1 = true ∧ ∀ (j' : Nat) e, j' < j → es[j']? = some e → eqV k e.1 = false
  | [], _ => .inl fun j e h => by simp at h
  | x :: es, k => by
    cases hx : eqV k x.1 with
    | true => exact .inr ⟨0, x, rfl, hx, fun j' e h => by omega⟩
    | false =>
      rcases ent_cases es k with h | ⟨j, e, h1, h2, h3⟩
      · refine .inl fun j e he => ?_
        cases j with
        | zero => simp at he; subst he; exact hx
        | succ j => exact h j e (by simpa using he)
      · refine .inr ⟨j + 1, e, by simpa using h1, h2, fun j' e' hj he' => ?_⟩
        cases j' with
        | zero => simp at he'; subst he'; exact hx
        | succ j' => exact h3 j' e' (by omega) (by simpa using he')

/-- The keys of a map, as data. -/
theorem keys_pd {te : TE} {g : Gh} {n : Nat} : ∀ {es : List (V × V)} {ents : List MapEntry}, ents.length = es.length → (∀ (i : Nat) (m : MapEntry) (e : V × V), ents[i]? = some m → es[i]? = some e → RV g n e.1 m.key ∧ RV g n e.2 m.val) → (∀ e ∈ es, keyFit te e.1 = true) →
    ∃ ds : List (D × D), ds.length = es.length ∧ (∀ (i : Nat) (m : MapEntry) d, ents[i]? = some m → ds[i]? = some d → ∀ (ok : Nat → Prop) (w : World), RdD ok w m.key d.1) ∧ (∀ d ∈ ds, Abs.keyFit te d.1 = true) ∧ ∀ (i : Nat) e d, es[i]? = some e → ds[i]? = some d → PDs (cellsOf e.1) d.1.cells
  | [], _, _, _, _ => ⟨[], rfl, fun i m d _ h => by simp at h, fun d h => by simp at h, fun i e d h => by simp at h⟩
  | _ :: _, [], h, _, _ => by simp at h
  | x :: es, m :: ents, hl, h, hf => by
    obtain ⟨ds, h1, h2, h3, h4⟩ := keys_pd (es := es) (ents := ents) (by simpa using hl) (fun i m e hm he => h (i + 1) m e (by simpa using hm) (by simpa using he)) fun e he => hf e (by simp [he])
    obtain ⟨d, d1, d2, d3⟩ := key_pd (h 0 m x rfl rfl).1 (hf x (by simp))
    refine ⟨(d, d) :: ds, by simp [h1], fun i m' d' hm hd => ?_, fun d' hd => ?_, fun i e d' he hd => ?_⟩
    · cases i with
      | zero => simp at hm hd; subst hm; subst hd; exact d1
      | succ i => exact h2 i m' d' (by simpa using hm) (by simpa using hd)
    · simp at hd
      rcases hd with rfl | hd
      · exact d2
      · exact h3 _ hd
    · cases i with
      | zero => simp at he hd; subst he; subst hd; exact d3
      | succ i => exact h4 i e d' (by simpa using he) (by simpa using hd)

/-- A key looked for. -/
theorem find_run (hT : TOK P T) {kt : Nat} {g : Gh} {n : Nat} {es : List (V × V)} {ents : Array MapEntry} {k : V} {vk : Value} (w : World) (hl : ents.size = es.length)
    (h : ∀ (i : Nat) (m : MapEntry) (e : V × V), ents[i]? = some m → es[i]? = some e → RV g n e.1 m.key ∧ RV g n e.2 m.val) (hf : ∀ e ∈ es, keyFit (T kt) e.1 = true) (hk : RV g n k vk) (hfk : keyFit (T kt) k = true) :
    (∀ em, (Instr.checkKey em 10000 kt vk).run P w = .ok () w) ∧
    (((Instr.findKey kt vk ents.toList).run P w = .ok none w ∧ ∀ (j : Nat) e, es[j]? = some e → eqV k e.1 = false) ∨
      ∃ (j : Nat) (m : MapEntry) (e : V × V), (Instr.findKey kt vk ents.toList).run P w = .ok (some (j, m.val)) w ∧ ents[j]? = some m ∧ es[j]? = some e ∧ eqV k e.1 = true ∧ (∀ (j' : Nat) e, j' < j → es[j']? = some e → eqV k e.1 = false) ∧ (Instr.keyThatStays m.key vk).run P w = .ok vk w) := by
  obtain ⟨f1, f2, f3, f4⟩ := keyFit_ok hfk
  have hKT := hT.keyT f1 f2
  obtain ⟨kd, k1, k2, k3⟩ := key_pd hk hfk
  obtain ⟨ds, d1, d2, d3, d4⟩ := keys_pd (te := T kt) (es := es) (ents := ents.toList) (by simpa using hl) (fun i m e hm he => h i m e (by simpa using hm) he) hf
  have heq : ∀ (j : Nat) e d, es[j]? = some e → ds[j]? = some d → eqV k e.1 = Abs.eqCells kd.cells d.1.cells := fun j e d he hd => by
    refine pds_eq k3 (d4 j e d he hd) ?_
    obtain ⟨a1, _⟩ := Abs.keyFit_spec k2
    obtain ⟨b1, _⟩ := Abs.keyFit_spec (d3 d (List.mem_of_getElem? hd))
    rw [k3.length_eq, (d4 j e d he hd).length_eq, Abs.fitB_length a1, Abs.fitB_length b1]
  have hdat : ∀ (j : Nat) e, es[j]? = some e → ∃ d, ds[j]? = some d := fun j e he => by
    have : j < ds.length := by rw [d1]; exact (List.getElem?_eq_some_iff.1 he).1
    exact ⟨_, List.getElem?_eq_getElem this⟩
  have hl2 : ents.toList.length = ds.length := by rw [d1]; simpa using hl
  have hfk' := Abs.run_findKeyD (P := P) (ok := fun _ => True) (w := w) hKT (k1 _ w) k2 ents.toList ds hl2 (fun j m e hm he => d2 j m e hm he _ w) d3
  refine ⟨fun em => Abs.run_checkKeyD (ok := fun _ => True) hKT (k1 _ w) k2 em, ?_⟩
  rcases Abs.run_findAskingD (P := P) (ok := fun _ => True) (w := w) hKT (k1 _ w) k2 ents.toList ds 0 hl2 (fun j m e hm he => d2 j m e hm he _ w) d3 with ⟨q1, q2, _, _⟩ | ⟨j, m, d, q1, q2, q3, q4, q5, _, _⟩
  · refine .inl ⟨hfk'.trans q1, fun j e he => ?_⟩
    obtain ⟨d, hd⟩ := hdat j e he
    rw [heq j e d he hd]
    exact find_none q2 j d hd
  · have hj : j < es.length := by rw [← d1]; exact (List.getElem?_eq_some_iff.1 q3).1
    have he : es[j]? = some es[j] := List.getElem?_eq_getElem hj
    refine .inr ⟨j, m, es[j], ?_, by simpa using q2, he, by rw [heq j _ d he q3]; exact q5, fun j' e hj' he' => ?_, Abs.run_keyThatStays (ok := fun _ => True) (k1 _ w) (d2 j m d q2 q3 _ w) k2 (d3 d (List.mem_of_getElem? q3)) q5⟩
    · rw [hfk', q1, Nat.zero_add]
    · obtain ⟨d', hd'⟩ := hdat j' e he'
      rw [heq j' e d' he' hd']
      exact find_some q4 j' d' hj' hd'

/-! the operations -/
theorem like_putBlock {ng : Nat} (w : World) (r : Nat) (o : Go.Obj) : Like ng w (Abs.putBlock w r o) := ⟨rfl, rfl, rfl, by simp [Abs.putBlock], fun _ => Nat.le_refl _⟩

theorem hMakeMap_ok {o : Oper} {t : Nat} (ho : o.op = .makeMap t none) : HOK P T w0 ng o (hMakeMap t) := by
  intro call _ vals hh nx K r hr h
  obtain ⟨kt, et, hk, k1⟩ := mapK_ok h (hr _)
  rw [B.setK_eq, B.incK_eq] at k1
  refine ⟨_, _, _, k1, .of_run fun g hp ρ w g1 g2 g3 => ?_⟩
  have st := Step.new (T := T) (w0 := w0) (ng := ng) g1 g2 (like_alloc w (.map #[] 0)) (n := 0) (o := .map kt []) (fun b hb => heap_alloc_old w _ b hb) ⟨#[], 0, by simp only [updG, if_true]; exact heap_alloc_new w _, rfl, fun i m e hm => by simp at hm, ⟨fun e he => by simp at he, by simp [Stamped]⟩⟩
  refine ⟨_, _, _, _, .inl (by simp [execOp, ho, Instr.makeMap, newObj, Sem.run]; rfl), st, ?_⟩
  have := RV.map (g := updG g nx ⟨w.heap.size, 0, 0⟩) (n := nx.inc.num) nx (by rw [B.num_inc]; omega)
  simpa [updG] using this

def lookV (ok : Bool) (r0 : Option V) (z : V) : V := match ok with | true => .tup [r0.getD z, .bool r0.isSome] | false => r0.getD z
theorem lookK_ok {ok : Bool} {r0 : Option V} {z : V} {K : V → R} {r : R} (h : lookK ok r0 z K = r) : K (lookV ok r0 z) = r := by
  cases ok <;> cases r0 <;> exact h

theorem rv_look {g : Gh} {n : Nat} {v : V} {u : Value} (h : RV g n v u) {r0 : Option V} {z : V} {b : Bool} (h1 : r0.getD z = v) (h2 : r0.isSome = b) (ok : Bool) : RV g n (lookV ok r0 z) (if ok then .tuple #[u, .bool b] else u) := by
  unfold lookV
  rw [h1, h2]
  cases ok with
  | false => exact h
  | true =>
    refine .tup _ _ rfl fun i c x hc hx => ?_
    match i with
    | 0 => simp at hc hx; subst hc; subst hx; exact h
    | 1 => simp at hc hx; subst hc; subst hx; exact .bool b
    | i + 2 => simp at hc

theorem hLookup_ok (hT : TOK P T) {o : Oper} {t : Nat} {x y : Operand} {ok : Bool} (ho : o.op = .lookup t x y ok) : HQ P T w0 ng o (hLookup t ok) := by
  intro call _ vals hh nx K r hr h
  obtain ⟨kt, et, hk, k1⟩ := mapK_ok h (hr _)
  obtain ⟨m, k, rfl, k2⟩ := l2_ok k1 (hr _)
  obtain ⟨hb, k3⟩ := ite'_ok k2 (hr _)
  obtain ⟨hfk, hke⟩ := and_ok hb
  have hu := hT.map hk
  obtain ⟨d, i, hfe⟩ := hT.facts (Abs.TE.known_spec hke)
  have hzero : ∀ w, (zeroValue et).run P w = .ok (T et).zero w := fun w => by simp [zeroValue, typeInfo, hfe.info, hfe.zero]
  rcases asMap_or k3 with ⟨id, rfl, k4⟩ | ⟨_, k4⟩
  · obtain ⟨kt', es, hg, k5⟩ := asMp_ok k4 (hr _)
    obtain ⟨hkk, k6⟩ := ite'_ok k5 (hr _)
    have hkk := beq_iff.1 hkk
    subst hkk
    refine ⟨_, lookK_ok k6, fun g hp ρ w g1 g2 g3 => ?_⟩
    obtain ⟨hx, hy⟩ := rvl2 (x := x) (y := y) (by simp [ho, Op.operands]) g3
    generalize hvx : ρ x = vx at hx
    cases hx
    obtain ⟨_, ents, clock, e1, e2, e3, e4, _⟩ := g1.obj _ _ (g2 _ _ hg)
    obtain ⟨hck, hfind⟩ := find_run (P := P) hT w e2 e3 e4 hy hfk
    rcases hfind with ⟨q1, q2⟩ | ⟨j, me, e, q1, q2, q3, q4, q5, _⟩
    · obtain ⟨r1, _, _⟩ := ent_none q2
      rw [r1]
      refine ⟨if ok then .tuple #[(T et).zero, .bool false] else (T et).zero, ?_, rv_look (rv_cV g nx.num (T et).zero) rfl rfl ok⟩
      cases ok <;> simp [execOp, ho, hvx, Instr.lookup, run_underlying hu, hck, q1, hzero, Go.MapKept.run_getObj_map e1]
    · obtain ⟨r1, _, _⟩ := ent_some q3 q4 q5
      rw [r1]
      refine ⟨if ok then .tuple #[me.val, .bool true] else me.val, ?_, rv_look (e3 j me e q2 q3).2 rfl rfl ok⟩
      cases ok <;> simp [execOp, ho, hvx, Instr.lookup, run_underlying hu, hck, q1, Go.MapKept.run_getObj_map e1]
  · obtain ⟨rfl, k5⟩ := isNilm_ok k4 (hr _)
    refine ⟨_, lookK_ok k5, fun g hp ρ w g1 g2 g3 => ?_⟩
    obtain ⟨hx, hy⟩ := rvl2 (x := x) (y := y) (by simp [ho, Op.operands]) g3
    generalize hvx : ρ x = vx at hx
    cases hx
    obtain ⟨hck, hfind⟩ := find_run (P := P) hT (es := []) (ents := #[]) w rfl (fun i m e hm => by simp at hm) (fun e he => by simp at he) hy hfk
    rcases hfind with ⟨q1, _⟩ | ⟨j, me, e, _, q2, _⟩
    · refine ⟨if ok then .tuple #[(T et).zero, .bool false] else (T et).zero, ?_, rv_look (rv_cV g nx.num (T et).zero) rfl rfl ok⟩
      have q1' : (Instr.findKey kt (ρ y) []).run P w = .ok none w := q1
      cases ok <;> simp [execOp, ho, hvx, Instr.lookup, run_underlying hu, hck, q1', hzero]
    · simp at q2

theorem Stamped.push {ents : Array MapEntry} {clock : Nat} (h : Stamped ents clock) {m : MapEntry} (hm : m.born = clock) : Stamped (ents.push m) (clock + 1) := by
  refine ⟨fun x hx => ?_, ?_⟩
  · rw [Array.toList_push] at hx
    rcases List.mem_append.1 hx with hx | hx
    · exact Nat.lt_succ_of_lt (h.1 x hx)
    · simp at hx; subst hx; omega
  · rw [Array.toList_push, List.map_append]
    refine List.nodup_append.2 ⟨h.2, by simp, fun a ha b hb => ?_⟩
    obtain ⟨x, hx, rfl⟩ := List.mem_map.1 ha
    simp at hb
    subst hb
    have := h.1 x hx
    omega
theorem Stamped.of_born {ents ents' : Array MapEntry} {clock : Nat} (h : Stamped ents clock) (hb : ents'.toList.map (·.born) = ents.toList.map (·.born)) : Stamped ents' clock := by
  refine ⟨fun x hx => ?_, by rw [hb]; exact h.2⟩
  have : x.born ∈ ents'.toList.map (·.born) := List.mem_map.2 ⟨x, hx, rfl⟩
  rw [hb] at this
  obtain ⟨y, hy, e⟩ := List.mem_map.1 this
  rw [← e]
  exact h.1 y hy
theorem born_modify (ents : Array MapEntry) (j : Nat) (f : MapEntry → MapEntry) (hf : ∀ m, (f m).born = m.born) : (ents.modify j f).toList.map (·.born) = ents.toList.map (·.born) := by
  apply List.ext_getElem?
  intro i
  simp only [List.getElem?_map, Array.getElem?_toList, Array.getElem?_modify]
  split
  · cases ents[i]? <;> simp [hf]
  · rfl
theorem Stamped.erase {ents ents' : Array MapEntry} {clock j : Nat} (h : Stamped ents clock) (he : ents'.toList = ents.toList.eraseIdx j) : Stamped ents' clock := by
  refine ⟨fun x hx => h.1 x (by rw [he] at hx; exact List.mem_of_mem_eraseIdx hx), ?_⟩
  rw [he]
  exact List.Nodup.sublist (List.Sublist.map _ (List.eraseIdx_sublist _ _)) h.2

/-- A map written. -/
theorem map_step {g : Gh} {hp : B → Option Obj} {t : Tr Obj} {nx : B} {w : World} (h : HR T w0 ng g hp nx w) (hs : Sub t hp) {id : B} {kt : Nat} {es es' : List (V × V)} (hg : id.get t = some (.map kt es)) {ents' : Array MapEntry} (clock' : Nat)
    (hl : ents'.size = es'.length) (hr : ∀ (i : Nat) (m : MapEntry) (e : V × V), ents'[i]? = some m → es'[i]? = some e → RV g nx.num e.1 m.key ∧ RV g nx.num e.2 m.val) (hf : ∀ e ∈ es', keyFit (T kt) e.1 = true) (hst : Stamped ents' clock') :
    Step T w0 ng g hp t nx w g (updP hp id (some (.map kt es'))) (id.put t (some (.map kt es'))) nx (Abs.putBlock w (g id).b (.map ents' clock')) := by
  have ho := (h.obj id _ (hs id _ hg)).2.blk
  exact .write h hs (like_putBlock _ _ _) hg rfl (fun b hb => Abs.putBlock_other w _ b _ hb) ⟨ents', clock', Abs.putBlock_same w _ _ ho, hl, hr, hf, hst⟩

theorem hMapUpdate_ok (hT : TOK P T) {o : Oper} {t : Nat} {x y z : Operand} (ho : o.op = .mapUpdate t x y z ∨ o.op = .insert t x y z) : HOK P T w0 ng o (hMapUpdate t) := by
  intro call _ vals hh nx K r hr h
  obtain ⟨kt, et, hk, k1⟩ := mapK_ok h (hr _)
  obtain ⟨m, k, v, rfl, k2⟩ := l3_ok k1 (hr _)
  obtain ⟨hfk, k3⟩ := ite'_ok k2 (hr _)
  obtain ⟨id, rfl, k4⟩ := asMap_ok k3 (hr _)
  obtain ⟨kt', es, hg, k5⟩ := asMp_ok k4 (hr _)
  obtain ⟨hkk, k6⟩ := ite'_ok k5 (hr _)
  have hkk := beq_iff.1 hkk
  subst hkk
  have hu := hT.map hk
  have key : ∃ es', putE es k v (fun es => id.setK hh (some (.map kt es)) fun t' => K .any t' nx) = (fun es => id.setK hh (some (.map kt es)) fun t' => K .any t' nx) es' ∧
      (((∀ (j : Nat) e, es[j]? = some e → eqV k e.1 = false) → es' = es ++ [(k, v)]) ∧ ∀ (j : Nat) e, es[j]? = some e → eqV k e.1 = true → (∀ (j' : Nat) e, j' < j → es[j']? = some e → eqV k e.1 = false) → es' = es.set j (k, v)) := by
    rcases ent_cases es k with hA | ⟨j0, e0, p1, p2, p3⟩
    · exact ⟨_, (ent_none hA).2.1 v _, fun _ => rfl, fun j e he hb _ => by rw [hA j e he] at hb; cases hb⟩
    · refine ⟨_, (ent_some p1 p2 p3).2.1 v _, fun hA => ?_, fun j e he hb hp => ?_⟩
      · rw [hA j0 e0 p1] at p2; cases p2
      · rcases Nat.lt_trichotomy j j0 with h | h | h
        · rw [p3 j e h he] at hb; cases hb
        · rw [h]
        · rw [hp j0 e0 h p1] at p2; cases p2
  obtain ⟨es', c1, c2, c3⟩ := key
  rw [c1] at k6
  simp only [B.setK_eq] at k6
  refine ⟨_, _, _, k6, .of_run fun g hp ρ w g1 g2 g3 => ?_⟩
  obtain ⟨hx, hy, hz⟩ := rvl3 (x := x) (y := y) (z := z) (by rcases ho with ho | ho <;> simp [ho, Op.operands]) g3
  generalize hvx : ρ x = vx at hx
  cases hx
  obtain ⟨_, ents, clock, e1, e2, e3, e4, e5⟩ := g1.obj _ _ (g2 _ _ hg)
  obtain ⟨hck, hfind⟩ := find_run (P := P) hT w e2 e3 e4 hy hfk
  have hex : ∀ w', (Instr.mapUpdate t (.map (some (g id).b)) (ρ y) (ρ z)).run P w = .ok () w' → (execOp ρ o).run P w = .ok .skip w' := fun w' hrun => by
    rcases ho with ho | ho <;> simp [execOp, ho, hvx, hrun]
  rcases hfind with ⟨q1, q2⟩ | ⟨j, me, e, q1, q2, q3, q4, q5, q6⟩
  · have c2 := c2 q2
    subst c2
    have st := map_step (T := T) (w0 := w0) (ng := ng) g1 g2 hg (es' := es ++ [(k, v)]) (ents' := ents.push { key := ρ y, val := ρ z, born := clock }) (clock + 1) (by simp [e2]) (fun i m e hm he => by
      rcases Nat.lt_or_ge i ents.size with hi | hi
      · rw [Array.getElem?_push, if_neg (by omega)] at hm
        rw [List.getElem?_append_left (by omega)] at he
        exact e3 i m e hm he
      · have hie : i = ents.size := by
          have := (Array.getElem?_eq_some_iff.1 hm).1
          simp at this; omega
        subst hie
        rw [e2, List.getElem?_append_right (Nat.le_refl _)] at he
        simp at hm he
        subst hm; subst he
        exact ⟨hy, hz⟩) (fun e he => by
      simp at he
      rcases he with he | rfl
      · exact e4 e he
      · exact hfk) (e5.push rfl)
    exact ⟨undef, _, _, _, .inr ⟨hex _ (by simp [Instr.mapUpdate, run_underlying hu, Go.MapKept.run_getObj_map e1, hck, q1, Go.MapKept.run_setObj_map _ e1, Abs.putBlock]), rfl⟩, st, .any _⟩
  · have c3 := c3 j e q3 q4 q5
    subst c3
    have hj : j < ents.size := (Array.getElem?_eq_some_iff.1 q2).1
    have st := map_step (T := T) (w0 := w0) (ng := ng) g1 g2 hg (es' := es.set j (k, v)) (ents' := ents.modify j fun e => { e with key := ρ y, val := ρ z }) clock (by simp [e2]) (fun i m' e' hm he => by
      by_cases hij : j = i
      · subst hij
        rw [List.getElem?_set_self (by omega)] at he
        rw [Array.getElem?_modify, if_pos rfl, q2] at hm
        simp at he hm
        subst hm; subst he
        exact ⟨hy, hz⟩
      · rw [List.getElem?_set_ne hij] at he
        rw [Array.getElem?_modify, if_neg hij] at hm
        exact e3 i m' e' hm he) (fun e he => by
      rcases List.mem_or_eq_of_mem_set he with he | rfl
      · exact e4 e he
      · exact hfk) (e5.of_born (born_modify ents j _ fun _ => rfl))
    exact ⟨undef, _, _, _, .inr ⟨hex _ (by simp [Instr.mapUpdate, run_underlying hu, Go.MapKept.run_getObj_map e1, hck, q1, q2, q6, Go.MapKept.run_setObj_map _ e1, Abs.putBlock]), rfl⟩, st, .any _⟩

theorem hDelete_ok (hT : TOK P T) {o : Oper} {t t' : Nat} {x y : Operand} (ho : o.op = .call { callee := .builtin .delete, args := #[x, y], argTypes := #[t, t'] }) : HOK P T w0 ng o (hDelete t) := by
  intro call _ vals hh nx K r hr h
  obtain ⟨kt, et, hk, k1⟩ := mapK_ok h (hr _)
  obtain ⟨m, k, rfl, k2⟩ := l2_ok k1 (hr _)
  obtain ⟨hfk, k3⟩ := ite'_ok k2 (hr _)
  obtain ⟨id, rfl, k4⟩ := asMap_ok k3 (hr _)
  obtain ⟨kt', es, hg, k5⟩ := asMp_ok k4 (hr _)
  obtain ⟨hkk, k6⟩ := ite'_ok k5 (hr _)
  have hkk := beq_iff.1 hkk
  subst hkk
  have hu := hT.map hk
  have key : ∃ es', delE es k (fun es => id.setK hh (some (.map kt es)) fun t' => K .any t' nx) = (fun es => id.setK hh (some (.map kt es)) fun t' => K .any t' nx) es' ∧
      (((∀ (j : Nat) e, es[j]? = some e → eqV k e.1 = false) → es' = es) ∧ ∀ (j : Nat) e, es[j]? = some e → eqV k e.1 = true → (∀ (j' : Nat) e, j' < j → es[j']? = some e → eqV k e.1 = false) → es' = es.eraseIdx j) := by
    rcases ent_cases es k with hA | ⟨j0, e0, p1, p2, p3⟩
    · exact ⟨_, (ent_none hA).2.2 _, fun _ => rfl, fun j e he hb _ => by rw [hA j e he] at hb; cases hb⟩
    · refine ⟨_, (ent_some p1 p2 p3).2.2 _, fun hA => ?_, fun j e he hb hp => ?_⟩
      · rw [hA j0 e0 p1] at p2; cases p2
      · rcases Nat.lt_trichotomy j j0 with h | h | h
        · rw [p3 j e h he] at hb; cases hb
        · rw [h]
        · rw [hp j0 e0 h p1] at p2; cases p2
  obtain ⟨es', c1, c2, c3⟩ := key
  rw [c1] at k6
  simp only [B.setK_eq] at k6
  refine ⟨_, _, _, k6, .of_run fun g hp ρ w g1 g2 g3 => ?_⟩
  obtain ⟨hx, hy⟩ := rvl2 (x := x) (y := y) (by simp [ho, Op.operands, Call.operands]) g3
  generalize hvx : ρ x = vx at hx
  cases hx
  obtain ⟨_, ents, clock, e1, e2, e3, e4, e5⟩ := g1.obj _ _ (g2 _ _ hg)
  obtain ⟨hck, hfind⟩ := find_run (P := P) hT w e2 e3 e4 hy hfk
  rcases hfind with ⟨q1, q2⟩ | ⟨j, me, e, q1, q2, q3, q4, q5, q6⟩
  · have c2 := c2 q2
    subst c2
    have st := map_step (T := T) (w0 := w0) (ng := ng) g1 g2 hg (es' := es') (ents' := ents) clock e2 e3 e4 e5
    refine ⟨.tuple #[], _, _, _, .inl ?_, st, .any _⟩
    simp [execOp, ho, resolve, invoke, builtin, Builtin.delete_, hvx, run_underlying hu, Go.MapKept.run_getObj_map e1, hck, q1, Go.MapKept.run_setObj_map _ e1, Abs.putBlock]
  · have c3 := c3 j e q3 q4 q5
    subst c3
    have hj : j < ents.size := (Array.getElem?_eq_some_iff.1 q2).1
    have hdel : (ents.eraseIdxIfInBounds j).toList = ents.toList.eraseIdx j := by unfold Array.eraseIdxIfInBounds; rw [dif_pos hj]; exact Array.toList_eraseIdx
    have st := map_step (T := T) (w0 := w0) (ng := ng) g1 g2 hg (es' := es.eraseIdx j) (ents' := ents.eraseIdxIfInBounds j) clock (by
        rw [← Array.length_toList, hdel, List.length_eraseIdx, List.length_eraseIdx]
        simp only [Array.length_toList, e2]) (fun i m' e' hm he' => by
        have hm2 : (ents.toList.eraseIdx j)[i]? = some m' := by rw [← hdel, Array.getElem?_toList]; exact hm
        rw [List.getElem?_eraseIdx] at hm2 he'
        split at hm2
        · rename_i h1; rw [if_pos h1] at he'; exact e3 i m' e' (by simpa using hm2) he'
        · rename_i h1; rw [if_neg h1] at he'; exact e3 (i + 1) m' e' (by simpa using hm2) he') (fun e he => e4 e (List.mem_of_mem_eraseIdx he)) (e5.erase hdel)
    refine ⟨.tuple #[], _, _, _, .inl ?_, st, .any _⟩
    simp [execOp, ho, resolve, invoke, builtin, Builtin.delete_, hvx, run_underlying hu, Go.MapKept.run_getObj_map e1, hck, q1, Go.MapKept.run_setObj_map _ e1, Abs.putBlock]
end
end Go.Sim

/- Sim: calls; what is owed of every operation. -/
namespace Go.Sim
open Go Go.RowKit
open Go.Abs (TE TK SK TOK TFacts)

section
variable {P : Program} {T : Nat → TE} {w0 : World} {ng : Nat}

theorem hBad_ok {o : Oper} (n : Nat) : HOK P T w0 ng o (hBad n) := fun _ _ _ _ _ _ _ hr h => absurd h (hr _)
theorem hBad_q {o : Oper} (n : Nat) : HQ P T w0 ng o (hBad n) := fun _ _ _ _ _ _ _ hr h => absurd h (hr _)

theorem frK_ok {f : FR} {K : V → Tr Obj → B → R} {r : R} (h : frK f R.bad K = r) (hr : ∀ n, R.bad n ≠ r) : ∃ v t nx, f = .ret v t nx ∧ K v t nx = r := by
  cases f with
  | bad n => exact absurd h (hr n)
  | ret v t nx => exact ⟨v, t, nx, rfl, h⟩

theorem RVL.split {g : Gh} {n : Nat} {c : V} {cs : List V} {l : List Operand} {ρ : Operand → Value} {f : Operand} (h : RVL g n (c :: cs) ((f :: l).map ρ)) : RV g n c (ρ f) ∧ RVL g n cs (l.map ρ) := by
  obtain ⟨v, vs, e, h1, h2⟩ := h.inv
  simp only [List.map_cons, List.cons.injEq] at e
  rw [e.1, e.2]
  exact ⟨h1, h2⟩

theorem hCall_ok {o : Oper} {fv : Operand} {as : Array Operand} {tys : Array TypeId} (ho : o.op = .call { callee := .value fv, args := as, argTypes := tys }) : HOK P T w0 ng o hCall := by
  intro call hcall vals hh nx K r hr h
  obtain ⟨vf, vs, rfl, k1⟩ := lc_ok h (hr _)
  obtain ⟨f, fs, cs, rfl, k2⟩ := asFn_ok k1 (hr _)
  obtain ⟨v, t', nx', k3, k4⟩ := frK_ok k2 hr
  refine ⟨v, t', nx', k4, fun g hp a w hw hs hv K' Q hK' => ?_⟩
  have hcm := hcall f _ _ _ _ _ _ k3
  have hops : o.op.operands.toList = fv :: as.toList := by simp [ho, Op.operands, Call.operands]
  rw [hops] at hv
  obtain ⟨hf, hargs⟩ := hv.split
  generalize hvf : a.eval fv = vfv at hf
  cases hf with
  | fn _ _ _ xf xc q1 q2 q3 q4 =>
    have hfs : RVL g nx.num fs xf.toList := ⟨by simpa using q1, fun i c v hc hv => q2 i c v hc (by simpa using hv)⟩
    have hcs : RVL g nx.num cs xc.toList := ⟨by simpa using q3, fun i c v hc hv => q4 i c v hc (by simpa using hv)⟩
    have hall := hfs.append (hargs.append hcs)
    have harr : (xf.toList ++ (as.toList.map a.eval ++ xc.toList)).toArray = (xf ++ as.map a.eval) ++ xc := by
      apply Array.ext'
      simp
    unfold Oper.wp
    rcases hcm with ⟨⟨fn, e1, e2, e3⟩, hc⟩ | ⟨rfl, rfl, _, hc⟩
    · have hcc := hc g hp w _ hw hs hall
      rw [harr] at hcc
      have hrun : (execOp a.eval o).run P w = .ok (.enter f ((xf ++ as.map a.eval) ++ xc)) w := by
        have e3' : fn.body ≠ none := by intro e; rw [e] at e3; cases e3
        have e2' : ¬ fn.name = "runtime.NumGoroutine" := by simpa using e2
        simp [execOp, ho, resolve, hvf, Deferred.ofValue, invoke, callFunc, e1, e2', e3']
      rw [hrun]
      refine hcc.mono fun e w' ⟨g', hp', val, he, hst, hrv⟩ => ?_
      subst he
      exact hK' g' hp' val w' hst hrv
    · obtain ⟨val, hv1, hv2⟩ := hc g hp w _ hw hs hall
      rw [harr] at hv1
      have hrun : (execOp a.eval o).run P w = .ok (.value val) w := by
        simp only [execOp, ho, resolve, hvf, Deferred.ofValue, invoke]
        simpa using hv1
      rw [hrun]
      exact hK' g hp val w (.refl hw hs) hv2

theorem call_eta {c : Call} {x : Callee} (h : c.callee = x) : c = { callee := x, args := c.args, argTypes := c.argTypes } := by subst h; rfl

/-- **Every operation.** -/
theorem opH_ok (hT : TOK P T) (o : Oper) : HOK P T w0 ng o (opH o.op ng) := by
  generalize hop : o.op = op
  cases op <;> try exact hBad_ok 111
  case move x => exact (hMove_ok (.inl hop)).ok
  case assign x => exact (hMove_ok (.inr hop)).ok
  case pick c a b => exact (hPick_ok hop).ok
  case alloc t => exact hAlloc_ok hT hop
  case box t x => exact hBox_ok hop
  case build t ps => exact (hBuild_ok hT hop).ok
  case buildSlice t len ps => exact hBuildSlice_ok hT hop
  case load t x => exact (hLoad_ok hT hop).ok
  case store t x y => exact hStore_ok hT hop
  case nilCheck x => exact (hNilCheck_ok hop).ok
  case binOp op t x y ty => exact (hBin_ok hT hop).ok
  case unOp op t x => exact (hUn_ok hop).ok
  case convert src dst x => exact (hConv_ok hT hop).ok
  case makeFunc f first captured =>
    cases f <;> try exact hBad_ok 111
    exact (hMakeFunc_ok hop).ok
  case makeSlice t l c => exact hMakeSlice_ok hT hop
  case fieldAddr t x f => exact (hFieldAddr_ok hT hop).ok
  case field t x f => exact (hField_ok hT hop).ok
  case indexAddr t x y => exact (hIndexAddr_ok hT hop).ok
  case index t x y => exact (hIndex_ok hT hop).ok
  case extract x i => exact (hExtract_ok hop).ok
  case slice t x lo hi mx => exact (hSlice_ok hT hop).ok
  case makeMap t r =>
    cases r with
    | none => exact hMakeMap_ok hop
    | some r => exact hBad_ok 111
  case lookup t x y c => exact (hLookup_ok hT hop).ok
  case mapUpdate t m k v => exact hMapUpdate_ok hT (.inl hop)
  case insert t m k v => exact hMapUpdate_ok hT (.inr hop)
  case waits g => exact (hWaits_ok hop).ok
  case call c =>
    obtain ⟨callee, ⟨as⟩, ⟨tys⟩⟩ := c
    cases callee <;> try exact hBad_ok 110
    case value f => exact hCall_ok hop
    case builtin b =>
      have hop' : o.op = .call { callee := .builtin b, args := ⟨as⟩, argTypes := ⟨tys⟩ } := hop
      cases b <;> try exact hBad_ok 110
      case len =>
        match as, tys, hop' with
        | [x], [t], hop' => exact (hLen_ok hT hop').ok
        | [], _, _ | _ :: _ :: _, _, _ | [_], [], _ | [_], _ :: _ :: _, _ => exact hBad_ok 110
      case cap =>
        match as, tys, hop' with
        | [x], [t], hop' => exact (hCap_ok hT hop').ok
        | [], _, _ | _ :: _ :: _, _, _ | [_], [], _ | [_], _ :: _ :: _, _ => exact hBad_ok 110
      case append =>
        match as, tys, hop' with
        | [x, y], [t, t'], hop' => exact hAppendX_ok hT hop'
        | [], _, _ | [_], _, _ | _ :: _ :: _ :: _, _, _ | [_, _], [], _ | [_, _], [_], _ | [_, _], _ :: _ :: _ :: _, _ => exact hBad_ok 110
      case copy =>
        match as, tys, hop' with
        | [x, y], [t, t'], hop' => exact hCopy_ok hT hop'
        | [], _, _ | [_], _, _ | _ :: _ :: _ :: _, _, _ | [_, _], [], _ | [_, _], [_], _ | [_, _], _ :: _ :: _ :: _, _ => exact hBad_ok 110
      case clear =>
        match as, tys, hop' with
        | [x], [t], hop' => exact hClear_ok hT hop'
        | [], _, _ | _ :: _ :: _, _, _ | [_], [], _ | [_], _ :: _ :: _, _ => exact hBad_ok 110
      case delete =>
        match as, tys, hop' with
        | [x, y], [t, t'], hop' => exact hDelete_ok hT hop'
        | [], _, _ | [_], _, _ | _ :: _ :: _ :: _, _, _ | [_, _], [], _ | [_, _], [_], _ | [_, _], _ :: _ :: _ :: _, _ => exact hBad_ok 110
      case max =>
        match as, hop' with
        | [x, y], hop' => exact (hMax_ok (mx := true) hop').ok
        | [], _ | [_], _ | _ :: _ :: _ :: _, _ => exact hBad_ok 110
      case min =>
        match as, hop' with
        | [x, y], hop' => exact (hMax_ok (mx := false) hop').ok
        | [], _ | [_], _ | _ :: _ :: _ :: _, _ => exact hBad_ok 110

/-- **Every operation that leaves the memory alone.** -/
theorem opH_q (hT : TOK P T) (o : Oper) (hq : isQ o.op = true) : HQ P T w0 ng o (opH o.op ng) := by
  generalize hop : o.op = op
  rw [hop] at hq
  cases op <;> try exact hBad_q 111
  case alloc => cases hq
  case box => cases hq
  case buildSlice => cases hq
  case store => cases hq
  case makeSlice => cases hq
  case makeMap => cases hq
  case mapUpdate => cases hq
  case insert => cases hq
  case move x => exact hMove_ok (.inl hop)
  case assign x => exact hMove_ok (.inr hop)
  case pick c a b => exact hPick_ok hop
  case build t ps => exact hBuild_ok hT hop
  case load t x => exact hLoad_ok hT hop
  case nilCheck x => exact hNilCheck_ok hop
  case binOp op t x y ty => exact hBin_ok hT hop
  case unOp op t x => exact hUn_ok hop
  case convert src dst x => exact hConv_ok hT hop
  case makeFunc f first captured =>
    cases f <;> try exact hBad_q 111
    exact hMakeFunc_ok hop
  case fieldAddr t x f => exact hFieldAddr_ok hT hop
  case field t x f => exact hField_ok hT hop
  case indexAddr t x y => exact hIndexAddr_ok hT hop
  case index t x y => exact hIndex_ok hT hop
  case extract x i => exact hExtract_ok hop
  case slice t x lo hi mx => exact hSlice_ok hT hop
  case lookup t x y c => exact hLookup_ok hT hop
  case waits g => exact hWaits_ok hop
  case call c =>
    obtain ⟨callee, ⟨as⟩, ⟨tys⟩⟩ := c
    cases callee <;> try exact hBad_q 110
    case value f => cases hq
    case builtin b =>
      have hop' : o.op = .call { callee := .builtin b, args := ⟨as⟩, argTypes := ⟨tys⟩ } := hop
      cases b <;> try exact hBad_q 110
      case append => cases hq
      case copy => cases hq
      case clear => cases hq
      case delete => cases hq
      case len =>
        match as, tys, hop' with
        | [x], [t], hop' => exact hLen_ok hT hop'
        | [], _, _ | _ :: _ :: _, _, _ | [_], [], _ | [_], _ :: _ :: _, _ => exact hBad_q 110
      case cap =>
        match as, tys, hop' with
        | [x], [t], hop' => exact hCap_ok hT hop'
        | [], _, _ | _ :: _ :: _, _, _ | [_], [], _ | [_], _ :: _ :: _, _ => exact hBad_q 110
      case max =>
        match as, hop' with
        | [x, y], hop' => exact hMax_ok (mx := true) hop'
        | [], _ | [_], _ | _ :: _ :: _ :: _, _ => exact hBad_q 110
      case min =>
        match as, hop' with
        | [x, y], hop' => exact hMax_ok (mx := false) hop'
        | [], _ | [_], _ | _ :: _ :: _ :: _, _ => exact hBad_q 110

end
end Go.Sim

/- Sim: temporaries, operands, regions in the order of their text. -/
namespace Go.Sim
open Go Go.RowKit
open Go.Abs (TE TK SK TOK TFacts)

theorem opnds_eq (op : Op) : op.operands.toList = opnds op := by
  cases op <;> simp [opnds, Op.operands]
  case call c =>
    obtain ⟨callee, ⟨as⟩, tys⟩ := c
    cases callee <;> simp [Call.operands]

/-- What is known of an activation. -/
structure AR (g : Gh) (n : Nat) (nt : Nat) (env : Tr V) (a : Act) : Prop where
  defers : a.defers = []
  size : a.tmps.size = nt
  env : ∀ t v, (bOf t).get env = some v → RV g n v (a.tmps.getD t Go.undef)

theorem AR.mono {g g' : Gh} {n n' nt : Nat} {env : Tr V} {a : Act} (he : Ext g g' n) (hn : n ≤ n') (h : AR g n nt env a) : AR g' n' nt env a := ⟨h.defers, h.size, fun t v hv => (h.env t v hv).mono he hn⟩

noncomputable def putE' (dst : Option Tmp) (env : Tr V) (v : V) : Tr V := match dst with | none => env | some d => (bOf d).put env (some v)
theorem putT_eq {R : Type} (dst : Option Tmp) (env : Tr V) (v : V) (K : Tr V → R) : putT dst env v K = K (putE' dst env v) := by
  cases dst with
  | none => rfl
  | some d => exact B.setK_eq _ _ _ _

theorem AR.put {g : Gh} {n nt : Nat} {env : Tr V} {a : Act} (h : AR g n nt env a) {dst : Option Tmp} (hd : ∀ d, dst = some d → d < nt) {v : V} {u : Value} (hv : RV g n v u) : AR g n nt (putE' dst env v) (a.put dst u) := by
  cases dst with
  | none => exact h
  | some d =>
    have hd := hd d rfl
    refine ⟨h.defers, by simp [Act.put, h.size], fun t x hx => ?_⟩
    simp only [putE', B.get_put] at hx
    by_cases e : bOf t = bOf d
    · have e' := bOf_inj e
      subst e'
      rw [if_pos e] at hx
      simp at hx
      subst hx
      have : (a.put (some t) u).tmps.getD t Go.undef = u := by simp [Act.put, h.size, hd]
      rw [this]; exact hv
    · rw [if_neg e] at hx
      have hne : d ≠ t := fun e' => e (by rw [e'])
      have : (a.put (some d) u).tmps.getD t Go.undef = a.tmps.getD t Go.undef := by simp [Act.put, Array.getElem?_setIfInBounds_ne hne]
      rw [this]; exact h.env t x hx

section
variable {P : Program} {T : Nat → TE} {w0 : World} {ng : Nat}

/-- An operand's value. -/
noncomputable def opV (ng : Nat) (env : Tr V) : Operand → V
  | .tmp t => match (bOf t).get env with | some v => v | none => .any
  | .const v => cV v
  | .global g => if g < ng then .ptr (bOf g) 0 else .any
  | .func f => .fn f [] []
theorem opK_eq {R : Type} (x : Operand) (ng : Nat) (env : Tr V) (K : V → R) : opK x ng env K = K (opV ng env x) := by
  cases x with
  | tmp t =>
    show (Option.rec (motive := fun _ => R) (K .any) (fun v => K v) ((bOf t).get env)) = _
    simp only [opV]
    cases (bOf t).get env <;> rfl
  | const v => rfl
  | global g =>
    show ite' (Nat.blt g ng) _ _ = _
    rw [ite'_eq]
    simp only [opV, blt_iff]
    split <;> rfl
  | func f => rfl
theorem opVs_eq {R : Type} (ng : Nat) (env : Tr V) : ∀ (xs : List Operand) (K : List V → R), opVs xs ng env K = K (xs.map (opV ng env))
  | [], _ => rfl
  | x :: xs, K => by
    show opK x ng env (fun v => opVs xs ng env fun vs => K (v :: vs)) = _
    rw [opK_eq, opVs_eq ng env xs]; rfl

theorem AR.eval {g : Gh} {nx : B} {nt : Nat} {env : Tr V} {a : Act} {hp : B → Option Obj} {w : World} (h : AR g nx.num nt env a) (hw : HR T w0 ng g hp nx w) (x : Operand) : RV g nx.num (opV ng env x) (a.eval x) := by
  cases x with
  | tmp t =>
    simp only [opV, Act.eval]
    cases he : (bOf t).get env with
    | none => exact .any _
    | some v => exact h.env t v he
  | const v => exact rv_cV g nx.num v
  | global gl =>
    simp only [opV, Act.eval]
    split
    · rename_i hlt
      obtain ⟨h1, h2⟩ := hw.glob gl hlt
      have := RV.ptr (g := g) (n := nx.num) (bOf gl) 0 (by rw [bOf_num]; have := hw.ngx; omega)
      rw [h1, h2] at this
      exact this
    · exact .any _
  | func f => exact .fn f [] [] #[] #[] rfl (fun i c v hc => by simp at hc) rfl (fun i c v hc => by simp at hc)
theorem AR.evals {g : Gh} {nx : B} {nt : Nat} {env : Tr V} {a : Act} {hp : B → Option Obj} {w : World} (h : AR g nx.num nt env a) (hw : HR T w0 ng g hp nx w) : ∀ xs : List Operand, RVL g nx.num (xs.map (opV ng env)) (xs.map a.eval)
  | [] => .nil
  | x :: xs => .cons (h.eval hw x) (AR.evals h hw xs)

/-! guards -/
theorem nthK_ok {R α : Type} : ∀ {j : Nat} {l : List α} {K : α → R} {e r : R}, nthK j l K e = r → e ≠ r → ∃ x, l[j]? = some x ∧ K x = r
  | 0, x :: l, K, e, r, h, _ => ⟨x, rfl, h⟩
  | 0, [], K, e, r, h, he => absurd h he
  | j + 1, _ :: l, K, e, r, h, he => by
    obtain ⟨x, h1, h2⟩ := nthK_ok (j := j) (l := l) h he
    exact ⟨x, by simpa using h1, h2⟩
  | j + 1, [], K, e, r, h, he => absurd h he
theorem isUndef_ok {α : Type} {v : V} {x e r : α} (h : isUndef v x e = r) (he : e ≠ r) : v = .undef ∧ x = r := by
  cases v <;> first | exact ⟨rfl, h⟩ | exact absurd h he
theorem eqBo_iff {a b : Bool} : eqBo a b = true ↔ a = b := by cases a <;> cases b <;> simp [eqBo]

/-- Whether the operation is carried out, as its guard's temporary tells. -/
def Wd (all : List Oper) (ng : Nat) (env : Tr V) (o : Oper) (b : Bool) : Prop := match o.guard with
  | none => b = true
  | some (j, want) => ∃ oj d, all[j]? = some oj ∧ oj.dst = some d ∧ ((opV ng env (.tmp d) = .undef ∧ b = false) ∨ ∃ c, opV ng env (.tmp d) = .bool c ∧ b = (c == want))

theorem Wd.wanted {all : List Oper} {env : Tr V} {o : Oper} {b : Bool} (h : Wd all ng env o b) {g : Gh} {n nt : Nat} {a : Act} (ha : AR g n nt env a) (hd : ∀ o ∈ all, ∀ d, o.dst = some d → d < nt) : Region.wanted o (yielded all.toArray a.tmps) = b := by
  unfold Wd at h
  unfold Region.wanted
  cases hg : o.guard with
  | none => rw [hg] at h; simp only at h; simp [h]
  | some p =>
    obtain ⟨j, want⟩ := p
    rw [hg] at h
    obtain ⟨oj, d, h1, h2, h3⟩ := h
    have hdn := hd oj (List.mem_of_getElem? h1) d h2
    have hget : a.tmps[d]? = some (a.tmps.getD d Go.undef) := by
      have : d < a.tmps.size := by rw [ha.size]; exact hdn
      simp [this]
    have hy : yielded all.toArray a.tmps j = match a.tmps.getD d Go.undef with | .bool b => some b | _ => none := by
      unfold yielded
      have e1 : (all.toArray[j]?).bind (·.dst) = some d := by simp [h1, h2]
      rw [e1]
      simp only [Option.bind_some]
      rw [hget]
      generalize a.tmps.getD d Go.undef = u
      cases u <;> rfl
    have hv : ∀ v, opV ng env (.tmp d) = v → v ≠ .any → RV g n v (a.tmps.getD d Go.undef) := fun v hv hne => by
      simp only [opV] at hv
      cases he : (bOf d).get env with
      | none => rw [he] at hv; exact absurd hv.symm hne
      | some x => rw [he] at hv; simp only at hv; rw [← hv]; exact ha.env d x he
    simp only [hy]
    rcases h3 with ⟨e, rfl⟩ | ⟨c, e, rfl⟩
    · have := hv _ e (by simp)
      generalize a.tmps.getD d Go.undef = u at this
      cases this
      rfl
    · have := hv _ e (by simp)
      generalize a.tmps.getD d Go.undef = u at this
      cases this
      cases c <;> cases want <;> rfl

theorem stepG_ok {o : Oper} {all : List Oper} {h : H} {call : Cl} {env : Tr V} {t : Tr Obj} {nx : B} {k : KE} {r : R} (hr : ∀ n, R.bad n ≠ r) (hs : stepG o.guard all o.dst h (opnds o.op) T call ng env t nx k = r) :
    ∃ b, Wd all ng env o b ∧ (b = true → h T call ((opnds o.op).map (opV ng env)) t nx (fun v t nx => k (putE' o.dst env v) t nx) = r) ∧ (b = false → k (putE' o.dst env .undef) t nx = r) := by
  unfold Wd
  generalize o.guard = gd at hs
  cases gd with
  | none =>
    have hs' : opVs (opnds o.op) ng env (fun vals => h T call vals t nx fun v t nx => putT o.dst env v fun env => k env t nx) = r := hs
    rw [opVs_eq] at hs'
    simp only [putT_eq] at hs'
    exact ⟨true, rfl, fun _ => hs', fun h => by cases h⟩
  | some p =>
    obtain ⟨j, want⟩ := p
    obtain ⟨oj, h1, h2⟩ := nthK_ok (show nthK j all _ _ = r from hs) (hr _)
    obtain ⟨d, h3, h4⟩ := optK_ok h2 (hr _)
    rw [opK_eq] at h4
    simp only [putT_eq, opVs_eq] at h4
    rcases asBool_or h4 with ⟨c, e, h5⟩ | ⟨_, h5⟩
    · rw [ite'_eq] at h5
      refine ⟨c == want, ⟨oj, d, h1, h3, .inr ⟨c, e, rfl⟩⟩, fun hb => ?_, fun hb => ?_⟩
      · rw [if_pos (eqBo_iff.2 (by simpa using hb))] at h5; exact h5
      · rw [if_neg (fun he => by rw [eqBo_iff.1 he] at hb; simp at hb)] at h5; exact h5
    · obtain ⟨e, h6⟩ := isUndef_ok h5 (hr _)
      exact ⟨false, ⟨oj, d, h1, h3, .inl ⟨e, rfl⟩⟩, fun h => (by cases h), fun _ => h6⟩

/-- Where a region in the order of its text comes out. -/
theorem runOps_ok (hT : TOK P T) {call : Cl} (hc : CallOK P T w0 ng call) {all : List Oper} {nt : Nat} (hd : ∀ o ∈ all, ∀ d, o.dst = some d → d < nt) {K : KE} {r : R} (hr : ∀ n, R.bad n ≠ r) : ∀ {os : List Oper} {env : Tr V} {t : Tr Obj} {nx : B}, (∀ o ∈ os, o ∈ all) →
    runOps os all T call ng env t nx K = r → ∃ env' t' nx', K env' t' nx' = r ∧ ∀ g hp a w, HR T w0 ng g hp nx w → Sub t hp → AR g nx.num nt env a → ∀ Q : Exit → Act → World → Prop,
      (∀ g' hp' a' w', Step T w0 ng g hp t nx w g' hp' t' nx' w' → AR g' nx'.num nt env' a' → Q .normal a' w') → wpList P all.toArray Q os a w
  | [], env, t, nx, _, h => ⟨env, t, nx, h, fun g hp a w h1 h2 h3 Q hQ => hQ g hp a w (.refl h1 h2) h3⟩
  | o :: os, env, t, nx, hin, h => by
    obtain ⟨b, hw, h1, h2⟩ := stepG_ok hr h
    have hdo : ∀ d, o.dst = some d → d < nt := hd o (hin o (by simp))
    cases b with
    | false =>
      obtain ⟨env', t', nx', k1, k2⟩ := runOps_ok hT hc hd hr (os := os) (fun o ho => hin o (by simp [ho])) (h2 rfl)
      refine ⟨env', t', nx', k1, fun g hp a w g1 g2 g3 Q hQ => ?_⟩
      unfold wpList
      rw [hw.wanted g3 hd, if_neg (by simp)]
      exact k2 g hp _ w g1 g2 (g3.put hdo .undef) Q hQ
    | true =>
      obtain ⟨v, t1, nx1, k1, k2⟩ := opH_ok (P := P) hT o call hc _ _ _ _ r hr (h1 rfl)
      obtain ⟨env', t', nx', k3, k4⟩ := runOps_ok hT hc hd hr (os := os) (fun o ho => hin o (by simp [ho])) k1
      refine ⟨env', t', nx', k3, fun g hp a w g1 g2 g3 Q hQ => ?_⟩
      unfold wpList
      rw [hw.wanted g3 hd, if_pos rfl]
      refine .inl (k2 g hp a w g1 g2 (by rw [opnds_eq]; exact g3.evals g1 _) _ Q fun g1' hp1 v' w1 st hv => ?_)
      exact k4 g1' hp1 _ w1 st.hr st.sub ((g3.mono st.ext st.le).put hdo hv) Q fun g' hp' a' w' st' ha => hQ g' hp' a' w' (st.trans st') ha
end
end Go.Sim

/- Sim: code and functions. -/
namespace Go.Sim
open Go Go.RowKit
open Go.Abs (TE TK SK TOK TFacts)

/-- A loop at the start of its body. -/
def LoopRun (P : Program) (c : Code) (Q : Exit → Act → World → Prop) (a : Act) (w : World) : Prop :=
  ∀ (b : Frame) (k : List Item) (cs : List Frame), ∃ e a' w', Q e a' w' ∧ Arrives P (lone (b.at a (.code c :: .inLoop c :: k)) cs w) b k cs e a' w'
theorem LoopRun.wp {P : Program} {c : Code} {Q : Exit → Act → World → Prop} {a : Act} {w : World} (h : LoopRun P c Q a w) : (Code.loop c).wp P Q a w := fun b k cs => by
  obtain ⟨e, a', w', hq, harr⟩ := h b k cs
  exact ⟨e, a', w', hq, .of_steps (.one step_loop) harr⟩
theorem LoopRun.step {P : Program} {c : Code} {Q : Exit → Act → World → Prop} {a : Act} {w : World} (h : c.wp P (Exit.then (LoopRun P c Q) Q) a w) : LoopRun P c Q a w := fun b k cs => by
  obtain ⟨e, a₁, w₁, hq, harr⟩ := h b (.inLoop c :: k) cs
  cases e with
  | normal =>
    obtain ⟨e₂, a₂, w₂, hq₂, harr₂⟩ := hq b k cs
    exact ⟨e₂, a₂, w₂, hq₂, .of_steps (Steps.trans harr (.one step_inLoop)) harr₂⟩
  | exit id => exact ⟨_, a₁, w₁, hq, .pass (x := .inLoop c) rfl (fun _ _ => .inl (by simp)) harr⟩
  | goto l => exact ⟨_, a₁, w₁, hq, .pass (x := .inLoop c) rfl (fun _ _ => .inl (by simp)) harr⟩
  | ret => exact ⟨_, a₁, w₁, hq, .pass (x := .inLoop c) rfl (fun _ _ => .inl (by simp)) harr⟩
  | panic ch => exact ⟨_, a₁, w₁, hq, .pass (x := .inLoop c) rfl (fun _ _ => .inl (by simp)) harr⟩
  | outgrown => exact ⟨_, a₁, w₁, hq, .pass (x := .inLoop c) rfl (fun _ _ => .inl (by simp)) harr⟩

def X.exit : X → Exit | .nrm => .normal | .ex i => .exit i | .ret => .ret

section
variable (P : Program) (T : Nat → TE) (w0 : World) (ng : Nat) (nt : Nat)

/-- What is owed of a region whose order is drawn. -/
def DrawT (its : List DI) (ops : List Oper) : Prop := ∀ call, CallOK P T w0 ng call → ∀ env t nx (K : KE) r, (∀ n, R.bad n ≠ r) → runA its ops T call ng env t nx K = r →
  ∃ env' t' nx', K env' t' nx' = r ∧ ∀ id g hp a w, HR T w0 ng g hp nx w → Sub t hp → AR g nx.num nt env a → ∀ Q : Exit → Act → World → Prop,
    (∀ g' hp' a' w', Step T w0 ng g hp t nx w g' hp' t' nx' w' → AR g' nx'.num nt env' a' → Q .normal a' w') → (Code.region id ops.toArray true).wp P Q a w

def CodeOK (ann : Nat → List DI) : Code → Prop
  | .region id ops d => (∀ o ∈ ops.toList, ∀ x, o.dst = some x → x < nt) ∧ (d = true → DrawT P T w0 ng nt (ann id) ops.toList)
  | .seq a b => CodeOK ann a ∧ CodeOK ann b
  | .cond _ a b => CodeOK ann a ∧ CodeOK ann b
  | .block _ c => CodeOK ann c
  | .loop c => CodeOK ann c
  | _ => True

/-- Where code comes out. -/
def QX (g : Gh) (hp : B → Option Obj) (t : Tr Obj) (nx : B) (w : World) (x : X) (env' : Tr V) (t' : Tr Obj) (nx' : B) : Exit → Act → World → Prop :=
  fun e a' w' => e = x.exit ∧ ∃ g' hp', Step T w0 ng g hp t nx w g' hp' t' nx' w' ∧ AR g' nx'.num nt env' a'
def CT (c : Code) (env : Tr V) (t : Tr Obj) (nx : B) (x : X) (env' : Tr V) (t' : Tr Obj) (nx' : B) : Prop :=
  ∀ g hp a w, HR T w0 ng g hp nx w → Sub t hp → AR g nx.num nt env a → c.wp P (QX T w0 ng nt g hp t nx w x env' t' nx') a w
def LT (c : Code) (env : Tr V) (t : Tr Obj) (nx : B) (x : X) (env' : Tr V) (t' : Tr Obj) (nx' : B) : Prop :=
  ∀ g hp a w, HR T w0 ng g hp nx w → Sub t hp → AR g nx.num nt env a → LoopRun P c (QX T w0 ng nt g hp t nx w x env' t' nx') a w
def BodyOK (f : Nat) (fe : FE) : Prop := ∃ fn, P.funcs[f]? = some fn ∧ (fn.name == "runtime.NumGoroutine") = false ∧ fn.body = some fe.body ∧ fn.results.toList = fe.res ∧ fn.ntmps = fe.nt ∧ CodeOK P T w0 ng fe.nt fe.ann fe.body
def FOK (F : Nat → Option FE) : Prop := ∀ f fe, F f = some fe → ∀ args t nx e v t' nx', fe.pre args t nx e = .ret v t' nx' → Comes P T w0 ng f args t nx v t' nx' ∨ (e = .ret v t' nx' ∧ BodyOK P T w0 ng f fe)
end

section
variable {P : Program} {T : Nat → TE} {w0 : World} {ng : Nat} {nt : Nat}

theorem rK_ok {r : R} {K : X → Tr V → Tr Obj → B → R} {r' : R} (h : rK r R.bad K = r') (hr : ∀ n, R.bad n ≠ r') : ∃ x env t nx, r = .ok x env t nx ∧ K x env t nx = r' := by
  cases r with
  | bad n => exact absurd h (hr n)
  | ok x env t nx => exact ⟨x, env, t, nx, rfl, h⟩

theorem codeH_ok (hT : TOK P T) (hm : P.follows .mixedOrders = true) {F : Nat → Option FE} {ann : Nat → List DI} {ex : Ex} (hc : CallOK P T w0 ng (callF T F ng ex))
    (hex : ∀ c env t nx x env' t' nx', ex ann c env t nx = .ok x env' t' nx' → CodeOK P T w0 ng nt ann c → CT P T w0 ng nt c env t nx x env' t' nx')
    (hlp : ∀ c env t nx x env' t' nx', ex ann (.loop c) env t nx = .ok x env' t' nx' → CodeOK P T w0 ng nt ann c → LT P T w0 ng nt c env t nx x env' t' nx') :
    ∀ c env t nx x env' t' nx', codeH c T F ng ann ex env t nx = .ok x env' t' nx' → CodeOK P T w0 ng nt ann c →
      CT P T w0 ng nt c env t nx x env' t' nx' ∧ (∀ c', c = .loop c' → LT P T w0 ng nt c' env t nx x env' t' nx') := by
  intro c env t nx x env' t' nx' h hok
  have hb : ∀ n, R.bad n ≠ .ok x env' t' nx' := fun n => bad_ne
  cases c <;> try exact absurd h (hb _)
  case skip =>
    refine ⟨?_, fun c' e => by cases e⟩
    cases h
    exact fun g hp a w h1 h2 h3 => wp_skip ⟨rfl, g, hp, .refl h1 h2, h3⟩
  case ret =>
    refine ⟨?_, fun c' e => by cases e⟩
    cases h
    exact fun g hp a w h1 h2 h3 => wp_ret ⟨rfl, g, hp, .refl h1 h2, h3⟩
  case exit id =>
    refine ⟨?_, fun c' e => by cases e⟩
    cases h
    exact fun g hp a w h1 h2 h3 => wp_exit ⟨rfl, g, hp, .refl h1 h2, h3⟩
  case region id ops d =>
    refine ⟨?_, fun c' e => by cases e⟩
    obtain ⟨ops⟩ := ops
    cases d with
    | false =>
      obtain ⟨env1, t1, nx1, k1, k2⟩ := runOps_ok hT hc (all := ops) hok.1 hb (fun o ho => ho) h
      cases k1
      exact fun g hp a w h1 h2 h3 => wp_region_lit (k2 g hp a w h1 h2 h3 _ fun g' hp' a' w' st ha => ⟨rfl, g', hp', st, ha⟩)
    | true =>
      obtain ⟨env1, t1, nx1, k1, k2⟩ := hok.2 rfl _ hc env t nx _ _ hb h
      cases k1
      exact fun g hp a w h1 h2 h3 => k2 id g hp a w h1 h2 h3 _ fun g' hp' a' w' st ha => ⟨rfl, g', hp', st, ha⟩
  case seq c1 c2 =>
    refine ⟨?_, fun c' e => by cases e⟩
    obtain ⟨x1, env1, t1, nx1, k1, k2⟩ := rK_ok h hb
    have e1 := hex c1 _ _ _ _ _ _ _ k1 hok.1
    intro g hp a w h1 h2 h3
    refine wp_seq (wp_mono (e1 g hp a w h1 h2 h3) fun e a1 w1 ⟨he, g1, hp1, st, ha⟩ => ?_)
    subst he
    cases x1 with
    | nrm =>
      have e2 := hex c2 _ _ _ _ _ _ _ (show ex ann c2 env1 t1 nx1 = _ from k2) hok.2
      exact wp_mono (e2 g1 hp1 a1 w1 st.hr st.sub ha) fun e a2 w2 ⟨he, g2, hp2, st2, ha2⟩ => ⟨he, g2, hp2, st.trans st2, ha2⟩
    | ex i => cases k2; exact ⟨rfl, g1, hp1, st, ha⟩
    | ret => cases k2; exact ⟨rfl, g1, hp1, st, ha⟩
  case cond y c1 c2 =>
    refine ⟨?_, fun c' e => by cases e⟩
    have h' : opK y ng env (fun v => asBool v (fun c => ite' c (ex ann c1 env t nx) (ex ann c2 env t nx)) (.bad 120)) = .ok x env' t' nx' := h
    rw [opK_eq] at h'
    obtain ⟨b, hv, k1⟩ := asBool_ok h' (hb _)
    intro g hp a w h1 h2 h3
    have hev := h3.eval h1 y
    rw [hv] at hev
    have hb' : a.eval y = .bool b := by
      generalize a.eval y = u at hev
      cases hev; rfl
    cases b with
    | true => exact wp_cond_true hb' (hex c1 _ _ _ _ _ _ _ k1 hok.1 g hp a w h1 h2 h3)
    | false => exact wp_cond_false hb' (hex c2 _ _ _ _ _ _ _ k1 hok.2 g hp a w h1 h2 h3)
  case block id c1 =>
    refine ⟨?_, fun c' e => by cases e⟩
    obtain ⟨x1, env1, t1, nx1, k1, k2⟩ := rK_ok h hb
    have e1 := hex c1 _ _ _ _ _ _ _ k1 hok
    intro g hp a w h1 h2 h3
    refine wp_block (wp_mono (e1 g hp a w h1 h2 h3) fun e a1 w1 ⟨he, g1, hp1, st, ha⟩ => ?_)
    subst he
    cases x1 with
    | nrm => cases k2; exact ⟨rfl, g1, hp1, st, ha⟩
    | ret => cases k2; exact ⟨rfl, g1, hp1, st, ha⟩
    | ex i =>
      have k3 : ite' (Nat.beq i id) (.ok .nrm env1 t1 nx1) (.ok (.ex i) env1 t1 nx1) = R.ok x env' t' nx' := k2
      rw [ite'_eq] at k3
      simp only [X.exit, Exit.inBlock]
      split at k3
      · rename_i e; rw [if_pos (beq_iff.1 e)]; cases k3; exact ⟨rfl, g1, hp1, st, ha⟩
      · rename_i e; rw [if_neg (fun e' => e (beq_iff.2 e'))]; cases k3; exact ⟨rfl, g1, hp1, st, ha⟩
  case loop c1 =>
    have key : LT P T w0 ng nt c1 env t nx x env' t' nx' := by
      obtain ⟨x1, env1, t1, nx1, k1, k2⟩ := rK_ok h hb
      have e1 := hex c1 _ _ _ _ _ _ _ k1 hok
      intro g hp a w h1 h2 h3
      refine LoopRun.step (wp_mono (e1 g hp a w h1 h2 h3) fun e a1 w1 ⟨he, g1, hp1, st, ha⟩ => ?_)
      subst he
      cases x1 with
      | nrm =>
        have e2 := hlp c1 _ _ _ _ _ _ _ (show ex ann (.loop c1) env1 t1 nx1 = _ from k2) hok
        intro b k cs
        obtain ⟨e, a2, w2, ⟨he, g2, hp2, st2, ha2⟩, harr⟩ := e2 g1 hp1 a1 w1 st.hr st.sub ha b k cs
        exact ⟨e, a2, w2, ⟨he, g2, hp2, st.trans st2, ha2⟩, harr⟩
      | ex i => cases k2; exact ⟨rfl, g1, hp1, st, ha⟩
      | ret => cases k2; exact ⟨rfl, g1, hp1, st, ha⟩
    exact ⟨fun g hp a w h1 h2 h3 => (key g hp a w h1 h2 h3).wp, fun c' e => by cases e; exact key⟩

/-! results -/
def resF (tmps : Array Value) : ResultVar → Sem Value
  | .tmp t => pure (tmps.getD t Go.undef)
  | .cell a t => do loadVar t (← asAddr (tmps.getD a Go.undef))

theorem results_eq (fn : Func) (tmps : Array Value) : results fn tmps = (do let vs ← fn.results.mapM (resF tmps); pure (if h : vs.size = 1 then vs[0] else .tuple vs)) := by
  unfold results
  congr 1

theorem results_run {fn : Func} {a : Act} {w : World} {vs : List Value} (h : (fn.results.toList.mapM (resF a.tmps)).run P w = .ok vs w) :
    (results fn a.tmps).run P w = .ok (match vs with | [v] => v | vs => .tuple vs.toArray) w := by
  rw [results_eq, Sem.run_bind]
  have : (fn.results.mapM (resF a.tmps)).run P w = .ok vs.toArray w := by
    rw [Array.mapM_eq_mapM_toList]
    simp only [Sem.run_map, h, Result.andThen_ok]
  rw [this]
  simp only [Result.andThen_ok, Sem.run_pure]
  match vs with
  | [] => rfl
  | [v] => rfl
  | v :: u :: r => simp

theorem loadF_ok {k : TK} {n : Nat} {cs : Tr V} {off : Nat} {K : V → FR} {r : FR} (h : loadF k n cs off K = r) (hr : ∀ n, FR.bad n ≠ r) :
    ∃ v, K v = r ∧ ((k.isAgg = true ∧ ∃ vs, cellsAt cs off n = some vs ∧ v = .agg vs) ∨ (k.isAgg = false ∧ k ≠ .none ∧ (bOf off).get cs = some v)) := by
  have one : ∀ (k : TK), (Option.rec (motive := fun _ => FR) (.bad 2) (fun v => K v) ((bOf off).get cs)) = r → k.isAgg = false → k ≠ .none →
      ∃ v, K v = r ∧ ((k.isAgg = true ∧ ∃ vs, cellsAt cs off n = some vs ∧ v = .agg vs) ∨ (k.isAgg = false ∧ k ≠ .none ∧ (bOf off).get cs = some v)) := by
    intro k h h1 h2
    cases hg : (bOf off).get cs with
    | none => rw [hg] at h; exact absurd h (hr _)
    | some v => rw [hg] at h; exact ⟨v, h, .inr ⟨h1, h2, rfl⟩⟩
  cases k with
  | none => exact absurd h (hr _)
  | agg fs => obtain ⟨vs, h1, h2⟩ := getN_ok h (hr _); exact ⟨_, h2, .inl ⟨rfl, vs, h1, rfl⟩⟩
  | arr m e' => obtain ⟨vs, h1, h2⟩ := getN_ok h (hr _); exact ⟨_, h2, .inl ⟨rfl, vs, h1, rfl⟩⟩
  | _ => exact one _ h rfl (by simp)

theorem resKs_ok (hT : TOK P T) {env : Tr V} {t : Tr Obj} {nx : B} {r : FR} (hr : ∀ n, FR.bad n ≠ r) : ∀ {rs : List ResultVar} {K : List V → FR}, resKs rs T ng env t K = r →
    ∃ vs, K vs = r ∧ ∀ g hp a w, HR T w0 ng g hp nx w → Sub t hp → AR g nx.num nt env a → ∃ us : List Value, (rs.mapM (resF a.tmps)).run P w = .ok us w ∧ RVL g nx.num vs us
  | [], K, h => ⟨[], h, fun g hp a w _ _ _ => ⟨[], by simp, .nil⟩⟩
  | .tmp x :: rs, K, h => by
    have h' : opK (.tmp x) ng env (fun v => resKs rs T ng env t fun vs => K (v :: vs)) = r := h
    rw [opK_eq] at h'
    obtain ⟨vs, k1, k2⟩ := resKs_ok hT hr h'
    refine ⟨_, k1, fun g hp a w h1 h2 h3 => ?_⟩
    obtain ⟨us, e1, e2⟩ := k2 g hp a w h1 h2 h3
    refine ⟨a.tmps.getD x Go.undef :: us, ?_, .cons (h3.eval h1 (.tmp x)) e2⟩
    rw [List.mapM_cons]
    simp only [resF, Sem.run_bind, Sem.run_pure, Result.andThen_ok, e1]
  | .cell x ty :: rs, K, h => by
    have h' : opK (.tmp x) ng env (fun v => asPtr v (fun id off => asBlk (id.get t) (fun _ _ _ cs => loadF (T ty).k (T ty).size cs off fun v => resKs rs T ng env t fun vs => K (v :: vs)) (.bad 116)) (.bad 117)) = r := h
    rw [opK_eq] at h'
    obtain ⟨id, off, hp', k0⟩ := asPtr_ok h' (hr _)
    obtain ⟨ro, sz, hi, cs, hg, k1⟩ := asBlk_ok k0 (hr _)
    obtain ⟨v, k2, hv⟩ := loadF_ok k1 hr
    obtain ⟨vs, k3, k4⟩ := resKs_ok hT hr k2
    refine ⟨_, k3, fun g hp a w h1 h2 h3 => ?_⟩
    obtain ⟨us, e1, e2⟩ := k4 g hp a w h1 h2 h3
    have hx := h3.eval h1 (.tmp x)
    rw [hp'] at hx
    obtain ⟨u, e3, e4⟩ := run_load hT h1 h2 hg hv
    have hx' : a.tmps.getD x Go.undef = .pointer (some ⟨(g id).b, (g id).o + off, none⟩) := by
      have : a.eval (.tmp x) = .pointer (some ⟨(g id).b, (g id).o + off, none⟩) := by
        generalize a.eval (.tmp x) = u at hx
        cases hx; rfl
      exact this
    refine ⟨u :: us, ?_, .cons e4 e2⟩
    rw [List.mapM_cons]
    simp only [resF, Sem.run_bind, hx', asAddr, Sem.run_pure, Result.andThen_ok, e3, e1]

theorem enter_eq : ∀ (args : List V) (i : Nat) (env : Tr V) (K : Tr V → FR), enter args i env K = K (putN args env i)
  | [], _, _, _ => rfl
  | v :: vs, i, env, K => by
    show (bOf i).setK env (some v) (fun env => enter vs (i + 1) env K) = _
    rw [B.setK_eq, enter_eq vs]; rfl

theorem rKF_ok {r : R} {K : X → Tr V → Tr Obj → B → FR} {r' : FR} (h : rK r FR.bad K = r') (hr : ∀ n, FR.bad n ≠ r') : ∃ x env t nx, r = .ok x env t nx ∧ K x env t nx = r' := by
  cases r with
  | bad n => exact absurd h (hr n)
  | ok x env t nx => exact ⟨x, env, t, nx, rfl, h⟩

theorem callT_of {f : Nat} {fe : FE} {fn : Func} {args : List V} {t : Tr Obj} {nx : B} {x : X} {env1 : Tr V} {t1 : Tr Obj} {nx1 : B} {v : V} {t' : Tr Obj} {nx' : B} (e1 : P.funcs[f]? = some fn) (e2 : (fn.name == "runtime.NumGoroutine") = false) (e3 : fn.body = some fe.body) (e4 : fn.results.toList = fe.res) (e5 : fn.ntmps = fe.nt)
    (hT : TOK P T) (hle : args.length ≤ fe.nt) (hct : CT P T w0 ng fe.nt fe.body (putN args .lf 0) t nx x env1 t1 nx1) (k5 : endF x fe.res T ng env1 t1 nx1 = .ret v t' nx') : CallT P T w0 ng f args t nx v t' nx' := by
  have hb : ∀ n, FR.bad n ≠ .ret v t' nx' := fun n h => by cases h
  refine ⟨⟨fn, e1, e2, by rw [e3]; rfl⟩, fun g hp w vs h1 h2 h3 => calls_of_wp e1 e3 ?_⟩
  have hlen : vs.length = args.length := h3.1
  have ha : AR g nx.num fe.nt (putN args .lf 0) { tmps := vs.toArray ++ Array.replicate (fn.ntmps - vs.toArray.size) Go.undef, defers := [] } := by
    refine ⟨rfl, by simp [e5]; omega, fun i c hc => ?_⟩
    rw [get_putN] at hc
    split at hc
    · rename_i hi
      rw [Nat.sub_zero] at hc
      have hlt : i < vs.length := by omega
      have e : (vs.toArray ++ Array.replicate (fn.ntmps - vs.toArray.size) Go.undef).getD i Go.undef = vs[i] := by
        have : i < vs.toArray.size := by simpa using hlt
        simp [Array.getElem?_append_left this, hlt]
      rw [e]
      exact h3.2 i c vs[i] hc (List.getElem?_eq_getElem hlt)
    · rw [B.get_lf] at hc; cases hc
  refine wp_mono (hct g hp _ w h1 h2 ha) fun e a' w' ⟨he, g', hp', st, ha'⟩ => ?_
  subst he
  have fin : resV fe.res T ng env1 t1 (fun v => .ret v t1 nx1) = .ret v t' nx' → a'.defers = [] ∧ ∃ u, (results fn a'.tmps).run P w' = .ok u w' ∧ ∃ g' hp' val, Ending.returned u = .returned val ∧ Step T w0 ng g hp t nx w g' hp' t' nx' w' ∧ RV g' nx'.num v val := fun k6 => by
    obtain ⟨rs, k7, k8⟩ := resKs_ok (P := P) (w0 := w0) (ng := ng) (nt := fe.nt) (nx := nx1) hT hb k6
    obtain ⟨us, r1, r2⟩ := k8 g' hp' a' w' st.hr st.sub ha'
    rw [← e4] at r1
    refine ⟨ha'.defers, _, results_run r1, g', hp', _, rfl, ?_⟩
    match rs, us, r2, k7 with
    | [c], [u], r2, k7 =>
      have k7 : FR.ret c t1 nx1 = .ret v t' nx' := k7
      cases k7
      exact ⟨st, r2.2 0 _ u rfl rfl⟩
    | [], [], r2, k7 =>
      have k7 : FR.ret (.tup []) t1 nx1 = .ret v t' nx' := k7
      cases k7
      exact ⟨st, .tup _ _ rfl fun i c u hc => by simp at hc⟩
    | c :: c2 :: cs, u :: u2 :: us, r2, k7 =>
      have k7 : FR.ret (.tup (c :: c2 :: cs)) t1 nx1 = .ret v t' nx' := k7
      cases k7
      exact ⟨st, .tup _ _ (by simpa using r2.1) fun i c u hc hu => r2.2 i c u hc (by simpa using hu)⟩
    | [], _ :: _, r2, _ => exact absurd r2.1 (by simp)
    | [_], [], r2, _ => exact absurd r2.1 (by simp)
    | [_], _ :: _ :: _, r2, _ => exact absurd r2.1 (by simp)
    | _ :: _ :: _, [], r2, _ => exact absurd r2.1 (by simp)
    | _ :: _ :: _, [_], r2, _ => exact absurd r2.1 (by simp)
  cases x with
  | nrm => exact fin k5
  | ret => exact fin k5
  | ex i => exact absurd k5 (hb _)

theorem callF_ok (hT : TOK P T) {F : Nat → Option FE} (hF : FOK P T w0 ng F) {ex : Ex} (hex : ∀ nt ann c env t nx x env' t' nx', ex ann c env t nx = .ok x env' t' nx' → CodeOK P T w0 ng nt ann c → CT P T w0 ng nt c env t nx x env' t' nx') : CallOK P T w0 ng (callF T F ng ex) := by
  intro f args t nx v t' nx' h
  have hb : ∀ n, FR.bad n ≠ .ret v t' nx' := fun n h => by cases h
  obtain ⟨fe, hfe, k1⟩ := optK_ok h (hb _)
  rcases hF f fe hfe args t nx _ v t' nx' k1 with hct | ⟨k2, fn, e1, e2, e3, e4, e5, e6⟩
  · exact hct
  obtain ⟨hle, k3⟩ := ite'_ok k2 (hb _)
  have hle := ble_iff.1 hle
  rw [enter_eq] at k3
  obtain ⟨x, env1, t1, nx1, k4, k5⟩ := rKF_ok k3 hb
  exact .inl <| callT_of e1 e2 e3 e4 e5 hT hle (hex fe.nt fe.ann fe.body _ _ _ _ _ _ _ k4 e6) k5

/-- **The evaluator is sound.** -/
theorem exec_ok (hT : TOK P T) (hm : P.follows .mixedOrders = true) {F : Nat → Option FE} (hF : FOK P T w0 ng F) : ∀ n nt ann c env t nx x env' t' nx', exec T F ng n ann c env t nx = .ok x env' t' nx' → CodeOK P T w0 ng nt ann c →
    CT P T w0 ng nt c env t nx x env' t' nx' ∧ (∀ c', c = .loop c' → LT P T w0 ng nt c' env t nx x env' t' nx')
  | 0, _, _, _, _, _, _, _, _, _, _, h, _ => absurd h bad_ne
  | n + 1, nt, ann, c, env, t, nx, x, env', t', nx', h, hok => by
    have ih := exec_ok hT hm hF n
    refine codeH_ok hT hm (callF_ok hT hF fun nt ann c env t nx x env' t' nx' h ho => (ih nt ann c env t nx x env' t' nx' h ho).1) (fun c env t nx x env' t' nx' h ho => (ih nt ann c env t nx x env' t' nx' h ho).1)
      (fun c env t nx x env' t' nx' h ho => (ih nt ann (.loop c) env t nx x env' t' nx' h ho).2 c rfl) c env t nx x env' t' nx' h hok

theorem call_ok (hT : TOK P T) (hm : P.follows .mixedOrders = true) {F : Nat → Option FE} (hF : FOK P T w0 ng F) (n : Nat) : CallOK P T w0 ng (callF T F ng (exec T F ng n)) :=
  callF_ok hT hF fun nt ann c env t nx x env' t' nx' h ho => (exec_ok hT hm hF n nt ann c env t nx x env' t' nx' h ho).1
end
end Go.Sim
