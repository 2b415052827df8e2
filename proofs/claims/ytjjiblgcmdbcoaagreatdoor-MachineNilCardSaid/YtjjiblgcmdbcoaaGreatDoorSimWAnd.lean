/- Sim: a call's run is told once and met again at other ids. -/
import Derived.Test.YtjjiblgcmdbcoaaGreatDoorSimQOne
set_option linter.unusedVariables false
set_option linter.unusedSimpArgs false
set_option linter.all false
namespace Go.Sim
open Go Go.RowKit
open Go.Abs (TE TK SK TOK)

/-- The same value at other ids. -/
inductive RenV (D : B → B → Prop) : V → V → Prop
  | bool (b : Bool) : RenV D (.bool b) (.bool b)
  | int (k : IntKind) (m : Int) : RenV D (.int k m) (.int k m)
  | str (l m : Nat) : RenV D (.str l m) (.str l m)
  | nilp : RenV D .nilp .nilp
  | ptr (i j : B) (off : Nat) : D i j → RenV D (.ptr i off) (.ptr j off)
  | nils : RenV D .nils .nils
  | emps : RenV D .emps .emps
  | sl (i j : B) (sz off len : Nat) (cap : Option Nat) : D i j → RenV D (.sl i sz off len cap) (.sl j sz off len cap)
  | nilm : RenV D .nilm .nilm
  | map (i j : B) : D i j → RenV D (.map i) (.map j)
  | nilf : RenV D .nilf .nilf
  | fn (f : Nat) (fs fs' cs cs' : List V) : fs.length = fs'.length → (∀ (i : Nat) a b, fs[i]? = some a → fs'[i]? = some b → RenV D a b) → cs.length = cs'.length → (∀ (i : Nat) a b, cs[i]? = some a → cs'[i]? = some b → RenV D a b) → RenV D (.fn f fs cs) (.fn f fs' cs')
  | nili : RenV D .nili .nili
  | ifc (t : Nat) (v v' : V) : RenV D v v' → RenV D (.ifc t v) (.ifc t v')
  | agg (cs cs' : List V) : cs.length = cs'.length → (∀ (i : Nat) a b, cs[i]? = some a → cs'[i]? = some b → RenV D a b) → RenV D (.agg cs) (.agg cs')
  | tup (cs cs' : List V) : cs.length = cs'.length → (∀ (i : Nat) a b, cs[i]? = some a → cs'[i]? = some b → RenV D a b) → RenV D (.tup cs) (.tup cs')
  | any : RenV D .any .any
def RenL (D : B → B → Prop) (a b : List V) : Prop := a.length = b.length ∧ ∀ (i : Nat) x y, a[i]? = some x → b[i]? = some y → RenV D x y
theorem RenL.nil {D : B → B → Prop} : RenL D [] [] := ⟨rfl, fun i x y h => by simp at h⟩
theorem RenL.cons {D : B → B → Prop} {x y : V} {a b : List V} (h : RenV D x y) (hs : RenL D a b) : RenL D (x :: a) (y :: b) :=
  ⟨by simp [hs.1], fun i u v hu hv => by
    cases i with
    | zero => simp at hu hv; subst hu; subst hv; exact h
    | succ i => simp at hu hv; exact hs.2 i u v hu hv⟩
theorem RenV.mono {D D' : B → B → Prop} (hD : ∀ i j, D i j → D' i j) {a b : V} (h : RenV D a b) : RenV D' a b := by
  induction h with
  | bool b => exact .bool b
  | int k m => exact .int k m
  | str l m => exact .str l m
  | nilp => exact .nilp
  | ptr i j off h => exact .ptr i j off (hD i j h)
  | nils => exact .nils
  | emps => exact .emps
  | sl i j sz off len cap h => exact .sl i j sz off len cap (hD i j h)
  | nilm => exact .nilm
  | map i j h => exact .map i j (hD i j h)
  | nilf => exact .nilf
  | fn f fs fs' cs cs' h1 _ h3 _ i1 i2 => exact .fn f fs fs' cs cs' h1 i1 h3 i2
  | nili => exact .nili
  | ifc t v v' _ ih => exact .ifc t v v' ih
  | agg cs cs' h _ ih => exact .agg cs cs' h ih
  | tup cs cs' h _ ih => exact .tup cs cs' h ih
  | any => exact .any
theorem RenL.mono {D D' : B → B → Prop} (hD : ∀ i j, D i j → D' i j) {a b : List V} (h : RenL D a b) : RenL D' a b := ⟨h.1, fun i x y hx hy => (h.2 i x y hx hy).mono hD⟩
theorem RenV.symm {D : B → B → Prop} {a b : V} (h : RenV D a b) : RenV (fun i j => D j i) b a := by
  induction h with
  | bool b => exact .bool b
  | int k m => exact .int k m
  | str l m => exact .str l m
  | nilp => exact .nilp
  | ptr i j off h => exact .ptr j i off h
  | nils => exact .nils
  | emps => exact .emps
  | sl i j sz off len cap h => exact .sl j i sz off len cap h
  | nilm => exact .nilm
  | map i j h => exact .map j i h
  | nilf => exact .nilf
  | fn f fs fs' cs cs' h1 _ h3 _ i1 i2 => exact .fn f fs' fs cs' cs h1.symm (fun i a b ha hb => i1 i b a hb ha) h3.symm (fun i a b ha hb => i2 i b a hb ha)
  | nili => exact .nili
  | ifc t v v' _ ih => exact .ifc t v' v ih
  | agg cs cs' h _ ih => exact .agg cs' cs h.symm fun i a b ha hb => ih i b a hb ha
  | tup cs cs' h _ ih => exact .tup cs' cs h.symm fun i a b ha hb => ih i b a hb ha
  | any => exact .any

theorem get_of_len {α β : Type} {l : List α} {l' : List β} (h : l.length = l'.length) {i : Nat} {x : α} (hx : l[i]? = some x) : ∃ y, l'[i]? = some y := by
  have := (List.getElem?_eq_some_iff.1 hx).1
  exact ⟨_, List.getElem?_eq_getElem (by omega)⟩
/-- What a value says goes along. -/
theorem RenV.rv {D : B → B → Prop} {g g' : Gh} {n n' : Nat} (hD : ∀ i j, D i j → j.num < n' → g i = g' j ∧ i.num < n) {a b : V} (h : RenV D a b) : ∀ x, RV g' n' b x → RV g n a x := by
  induction h with
  | bool b => intro x hx; cases hx; exact .bool b
  | int k m => intro x hx; cases hx; exact .int k m
  | str l m => intro x hx; cases hx; exact .str _ (by assumption)
  | nilp => intro x hx; cases hx; exact .nilp
  | ptr i j off h =>
    intro x hx
    cases hx with
    | ptr _ _ h1 =>
      obtain ⟨e1, e2⟩ := hD i j h h1
      rw [← e1]; exact .ptr i off e2
  | nils => intro x hx; cases hx; exact .nils
  | emps => intro x hx; cases hx; exact .emps _
  | sl i j sz off len cap h =>
    intro x hx
    cases hx with
    | sl _ _ _ _ _ a c h1 h2 h3 h4 h5 h6 h7 =>
      obtain ⟨e1, e2⟩ := hD i j h h1
      exact .sl i sz off len cap a c e2 h2 h3 h4 h5 (by rw [e1]; exact h6) (by rw [e1]; exact h7)
  | nilm => intro x hx; cases hx; exact .nilm
  | map i j h =>
    intro x hx
    cases hx with
    | map _ h1 =>
      obtain ⟨e1, e2⟩ := hD i j h h1
      rw [← e1]; exact .map i e2
  | nilf => intro x hx; cases hx; exact .nilf
  | fn f fs fs' cs cs' h1 _ h3 _ i1 i2 =>
    intro x hx
    cases hx with
    | fn _ _ _ vf vc k1 k2 k3 k4 =>
      refine .fn f fs cs vf vc (by omega) (fun i c v hc hv => ?_) (by omega) (fun i c v hc hv => ?_)
      · obtain ⟨y, hy⟩ := get_of_len h1 hc; exact i1 i c y hc hy v (k2 i y v hy hv)
      · obtain ⟨y, hy⟩ := get_of_len h3 hc; exact i2 i c y hc hy v (k4 i y v hy hv)
  | nili => intro x hx; cases hx; exact .nili
  | ifc t v v' _ ih =>
    intro x hx
    cases hx with
    | ifc _ _ y h => exact .ifc t v y (ih y h)
  | agg cs cs' h _ ih =>
    intro x hx
    cases hx with
    | agg _ vs k1 k2 k3 => exact .agg cs vs (by omega) (fun i c v hc hv => by obtain ⟨y, hy⟩ := get_of_len h hc; exact ih i c y hc hy v (k2 i y v hy hv)) k3
  | tup cs cs' h _ ih =>
    intro x hx
    cases hx with
    | tup _ vs k1 k2 => exact .tup cs vs (by omega) (fun i c v hc hv => by obtain ⟨y, hy⟩ := get_of_len h hc; exact ih i c y hc hy v (k2 i y v hy hv))
  | any => intro x _; exact .any x
theorem RenL.rvl {D : B → B → Prop} {g g' : Gh} {n n' : Nat} (hD : ∀ i j, D i j → j.num < n' → g i = g' j ∧ i.num < n) {a b : List V} (h : RenL D a b) {us : List Value} (hu : RVL g' n' b us) : RVL g n a us :=
  ⟨by rw [hu.1, h.1], fun i c v hc hv => by obtain ⟨y, hy⟩ := get_of_len h.1 hc; exact (h.2 i c y hc hy).rv hD v (hu.2 i y v hy hv)⟩

/-- What the first object tells, the second one tells too. -/
inductive RenO (T : Nat → TE) (D : B → B → Prop) : Obj → Obj → Prop
  | blk (ro : Bool) (sz sz' hi hi' : Nat) (cs cs' : Tr V) : sz ≤ sz' → (∀ (j : Nat) v, (bOf j).get cs = some v → j < hi ∧ ∃ u, (bOf j).get cs' = some u ∧ RenV D v u) → RenO T D (.blk ro sz hi cs) (.blk ro sz' hi' cs')
  | map (kt : Nat) (es es' : List (V × V)) : es.length = es'.length → (∀ (i : Nat) e e', es[i]? = some e → es'[i]? = some e' → RenV D e.1 e'.1 ∧ RenV D e.2 e'.2) → ((∀ e ∈ es', keyFit (T kt) e.1 = true) → ∀ e ∈ es, keyFit (T kt) e.1 = true) → RenO T D (.map kt es) (.map kt es')
theorem RenO.ro {T : Nat → TE} {D : B → B → Prop} {o o' : Obj} (h : RenO T D o o') : o.ro = o'.ro := by cases h <;> rfl
theorem RenO.objR {T : Nat → TE} {D : B → B → Prop} {g g' : Gh} {n n' : Nat} (hD : ∀ i j, D i j → j.num < n' → g i = g' j ∧ i.num < n) {o o' : Obj} (h : RenO T D o o') {id id' : B} (hid : g id = g' id') {w : World} (hr : ObjR T g' n' w id' o') : ObjR T g n w id o := by
  cases h with
  | blk ro sz sz' hi hi' cs cs' h1 h2 =>
    obtain ⟨cur, Tb, fz, k1, k2, k3, k4, k5⟩ := hr
    refine ⟨cur, Tb, fz, by rw [hid]; exact k1, k2, by rw [hid]; exact k3, by rw [hid]; omega, fun j v hv => ?_⟩
    obtain ⟨e1, u, e2, e3⟩ := h2 j v hv
    obtain ⟨_, x, f1, f2, f3⟩ := k5 j u e2
    exact ⟨e1, x, by rw [hid]; exact f1, e3.rv hD x f2, f3⟩
  | map kt es es' h1 h2 h3 =>
    obtain ⟨ents, clock, k1, k2, k3, k4, k5⟩ := hr
    refine ⟨ents, clock, by rw [hid]; exact k1, by rw [k2, h1], fun i m e hm he => ?_, h3 k4, k5⟩
    obtain ⟨e', he'⟩ := get_of_len h1 he
    obtain ⟨f1, f2⟩ := h2 i e e' he he'
    obtain ⟨q1, q2⟩ := k3 i m e' hm he'
    exact ⟨f1.rv hD _ q1, f2.rv hD _ q2⟩
/-- An object stays what it is where its block stays. -/
theorem ObjR.stay {T : Nat → TE} {g g' : Gh} {n n' : Nat} (he : Ext g g' n) (hn : n ≤ n') {id : B} {w w' : World} (hid : g' id = g id) {o : Obj} (hw : w'.heap[(g id).b]? = w.heap[(g id).b]?) (hr : ObjR T g n w id o) : ObjR T g' n' w' id o := by
  cases o with
  | blk ro sz hi cs =>
    obtain ⟨cur, Tb, fz, k1, k2, k3, k4, k5⟩ := hr
    refine ⟨cur, Tb, fz, by rw [hid, hw]; exact k1, k2, by rw [hid]; exact k3, by rw [hid]; exact k4, fun j v hv => ?_⟩
    obtain ⟨e1, x, f1, f2, f3⟩ := k5 j v hv
    exact ⟨e1, x, by rw [hid]; exact f1, f2.mono he hn, f3⟩
  | map kt es =>
    obtain ⟨ents, clock, k1, k2, k3, k4⟩ := hr
    refine ⟨ents, clock, by rw [hid, hw]; exact k1, k2, fun i m e hm he' => ?_, k4⟩
    obtain ⟨q1, q2⟩ := k3 i m e hm he'
    exact ⟨q1.mono he hn, q2.mono he hn⟩
theorem ObjR.lt {T : Nat → TE} {g : Gh} {n : Nat} {w : World} {id : B} {o : Obj} (hr : ObjR T g n w id o) : (g id).b < w.heap.size := by
  cases o with
  | blk ro sz hi cs => obtain ⟨cur, Tb, fz, k1, _⟩ := hr; exact (Array.getElem?_eq_some_iff.1 k1).1
  | map kt es => obtain ⟨ents, clock, k1, _⟩ := hr; exact (Array.getElem?_eq_some_iff.1 k1).1
/-- What is known lies below the mark. -/
def HiOK : Obj → Prop
  | .blk _ _ hi cs => ∀ (j : Nat) v, (bOf j).get cs = some v → j < hi
  | .map _ _ => True
theorem ObjR.hi {T : Nat → TE} {g : Gh} {n : Nat} {w : World} {id : B} {o : Obj} (hr : ObjR T g n w id o) : HiOK o := by
  cases o with
  | blk ro sz hi cs => obtain ⟨cur, Tb, fz, _, _, _, _, k⟩ := hr; exact fun j v hv => (k j v hv).1
  | map kt es => trivial

/-! a call met again -/
section
variable {P : Program} {T : Nat → TE} {w0 : World} {ng : Nat}

/-- The ids that come up in the call. -/
def newD (nx0 nx nx' : Nat) (i j : B) : Prop := nx0 ≤ i.num ∧ nx ≤ j.num ∧ j.num < nx' ∧ j.num - nx = i.num - nx0

open Classical in
/-- **A call's run holds at other ids.** -/
theorem CallT.ren {f : Nat} {args0 : List V} {t0 : Tr Obj} {nx0 : B} {v0 : V} {t1 : Tr Obj} {nx1 : B} (hc : CallT P T w0 ng f args0 t0 nx0 v0 t1 nx1) (hng : ng ≤ nx0.num) (h01 : nx0.num ≤ nx1.num)
    {D : B → B → Prop} {args : List V} {t : Tr Obj} {nx : B} {v : V} {t' : Tr Obj} {nx' : B} (hg : ∀ i : B, i.num < ng → D i i) (fun1 : ∀ i j k, D i j → D i k → j = k) (fun2 : ∀ i j k, D i k → D j k → i = j) (low : ∀ i j, D i j → i.num < nx0.num ∧ j.num < nx.num)
    (hn' : nx'.num = nx.num + (nx1.num - nx0.num))
    (ha : RenL D args0 args) (hpre : ∀ (i : B) (o : Obj), i.get t0 = some o → ∃ (j : B) (p : Obj), D i j ∧ j.get t = some p ∧ RenO T D o p)
    (hv : RenV (fun j i => D i j ∨ newD nx0.num nx.num nx'.num i j) v v0)
    (hpost : ∀ (i j : B) (o p : Obj), i.get t0 = some o → D i j → j.get t = some p → HiOK p → j.num < nx.num → ∀ p', j.get t' = some p' → ∃ o', i.get t1 = some o' ∧ RenO T (fun j i => D i j ∨ newD nx0.num nx.num nx'.num i j) p' o')
    (hnew : ∀ (j : B) p', nx.num ≤ j.num → j.get t = none → j.get t' = some p' → j.num < nx'.num ∧ ∃ (i : B) (o' : Obj), nx0.num ≤ i.num ∧ j.num - nx.num = i.num - nx0.num ∧ i.get t1 = some o' ∧ RenO T (fun j i => D i j ∨ newD nx0.num nx.num nx'.num i j) p' o')
    (hold : ∀ j : B, j.num < nx.num → (¬ ∃ (i : B) (o : Obj), i.get t0 = some o ∧ D i j) → j.get t' = j.get t) : CallT P T w0 ng f args t nx v t' nx' := by
  refine ⟨hc.1, fun g hp w vs h1 h2 h3 => ?_⟩
  have hngx := h1.ngx
  -- the ids of the run at their places here
  let g0 : Gh := fun i => if h : ∃ j, D i j then g (Classical.choose h) else g i
  have hg0 : ∀ i j, D i j → g0 i = g j := fun i j h => by
    have hx : ∃ j, D i j := ⟨j, h⟩
    show (if h : ∃ j, D i j then g (Classical.choose h) else g i) = g j
    rw [dif_pos hx, fun1 i _ j (Classical.choose_spec hx) h]
  have hDp : ∀ i j, D i j → j.num < nx.num → g0 i = g j ∧ i.num < nx0.num := fun i j h _ => ⟨hg0 i j h, (low i j h).1⟩
  have hpn : ∀ (j : B) (p : Obj), j.get t = some p → j.num < nx.num ∧ ObjR T g nx.num w j p := fun j p h => h1.obj j p (h2 j p h)
  have hr0 : HR T w0 ng g0 (fun i => i.get t0) nx0 w := by
    refine ⟨h1.os, h1.tape, h1.output, h1.size, h1.old, fun i o ho => ?_, fun i i' o o' ho ho' hne hro => ?_, fun i o ho hro => ?_, fun k hk => ?_, hng⟩
    · obtain ⟨j, p, d1, d2, d3⟩ := hpre i o ho
      exact ⟨(low i j d1).1, d3.objR hDp (hg0 i j d1) (hpn j p d2).2⟩
    · obtain ⟨j, p, d1, d2, d3⟩ := hpre i o ho
      obtain ⟨j', p', d1', d2', d3'⟩ := hpre i' o' ho'
      rw [hg0 i j d1, hg0 i' j' d1']
      exact h1.sep j j' p p' (h2 j p d2) (h2 j' p' d2') (fun e => hne (by subst e; exact fun2 i i' j d1 d1')) (by rw [← d3.ro]; exact hro)
    · obtain ⟨j, p, d1, d2, d3⟩ := hpre i o ho
      rw [hg0 i j d1]
      exact h1.new j p (h2 j p d2) (by rw [← d3.ro]; exact hro)
    · rw [hg0 (bOf k) (bOf k) (hg _ hk)]; exact h1.glob k hk
  refine (hc.2 g0 _ w vs hr0 (fun i o h => h) (ha.rvl hDp h3)).mono fun e w' ⟨g1, hp1, val, he, st, hval⟩ => ?_
  let R : B → Prop := fun j => ∃ (i : B) (o : Obj), i.get t0 = some o ∧ D i j
  let g' : Gh := fun j => if j.num < nx.num then g j else g1 ⟨nx0.num + (j.num - nx.num)⟩
  let hp' : B → Option Obj := fun j => if R j ∨ nx.num ≤ j.num then j.get t' else hp j
  have gold : ∀ j : B, j.num < nx.num → g' j = g j := fun j hj => if_pos hj
  have gnew : ∀ j i : B, nx.num ≤ j.num → nx0.num ≤ i.num → j.num - nx.num = i.num - nx0.num → g' j = g1 i := fun j i h1 h2 h3 => by
    show (if j.num < nx.num then g j else g1 ⟨nx0.num + (j.num - nx.num)⟩) = g1 i
    rw [if_neg (by omega)]
    congr 1
    exact B.num_inj (by show nx0.num + (j.num - nx.num) = i.num; omega)
  have gD : ∀ i j, D i j → g' j = g1 i := fun i j h => by
    obtain ⟨l1, l2⟩ := low i j h
    rw [gold j l2, ← hg0 i j h, st.ext i l1]
  have hE : ∀ j i : B, (D i j ∨ newD nx0.num nx.num nx'.num i j) → i.num < nx1.num → g' j = g1 i ∧ j.num < nx'.num := fun j i h hi => by
    rcases h with h | ⟨a1, a2, a3, a4⟩
    · have := (low i j h).2
      exact ⟨gD i j h, by omega⟩
    · exact ⟨gnew j i a2 a1 a4, a3⟩
  -- an object of the heap behind the call: of the run, or an old one
  have cases' : ∀ j o, hp' j = some o → (∃ (i : B) (o' : Obj), i.get t1 = some o' ∧ RenO T (fun j i => D i j ∨ newD nx0.num nx.num nx'.num i j) o o' ∧ g' j = g1 i ∧ j.num < nx'.num ∧ j.get t' = some o ∧ ((∃ o0 : Obj, i.get t0 = some o0 ∧ D i j) ∨ (nx0.num ≤ i.num ∧ nx.num ≤ j.num ∧ j.num - nx.num = i.num - nx0.num))) ∨
      (¬ R j ∧ j.num < nx.num ∧ hp j = some o) := fun j o ho => by
    by_cases hR : R j
    · have ho' : j.get t' = some o := by
        have : hp' j = j.get t' := if_pos (.inl hR)
        rw [← this]; exact ho
      obtain ⟨i, o0, r1, r2⟩ := hR
      obtain ⟨j2, p, d1, d2, d3⟩ := hpre i o0 r1
      have := fun1 i j2 j d1 r2
      subst this
      obtain ⟨q1, q2⟩ := hpn j2 p d2
      obtain ⟨o', e1, e2⟩ := hpost i j2 o0 p r1 r2 d2 q2.hi q1 o ho'
      exact .inl ⟨i, o', e1, e2, gD i j2 r2, by omega, ho', .inl ⟨o0, r1, r2⟩⟩
    · by_cases hj : nx.num ≤ j.num
      · have ho' : j.get t' = some o := by
          have : hp' j = j.get t' := if_pos (.inr hj)
          rw [← this]; exact ho
        have hjn : j.get t = none := by
          cases hjt : j.get t with
          | none => rfl
          | some p => exact absurd (hpn j p hjt).1 (by omega)
        obtain ⟨l, i, o', a1, a2, a3, a4⟩ := hnew j o hj hjn ho'
        exact .inl ⟨i, o', a3, a4, gnew j i hj a1 a2, l, ho', .inr ⟨a1, hj, a2⟩⟩
      · have ho' : hp j = some o := by
          have : hp' j = hp j := if_neg (fun h => h.elim hR hj)
          rw [← this]; exact ho
        exact .inr ⟨hR, by omega, ho'⟩
  -- old blocks that the run has no name for
  have apart : ∀ j o, ¬ R j → hp j = some o → ∀ (i : B) (o0 : Obj), i.get t0 = some o0 → o0.ro = false → (g0 i).b ≠ (g j).b := fun j o hR ho i o0 hi hro => by
    obtain ⟨j2, p, d1, d2, d3⟩ := hpre i o0 hi
    rw [hg0 i j2 d1]
    exact h1.sep j2 j p o (h2 j2 p d2) ho (fun e => hR ⟨i, o0, hi, by rw [← e]; exact d1⟩) (by rw [← d3.ro]; exact hro)
  have stays : ∀ j o, ¬ R j → j.num < nx.num → hp j = some o → w'.heap[(g j).b]? = w.heap[(g j).b]? := fun j o hR hj ho =>
    st.un _ (h1.obj j o ho).2.lt fun i o0 hi hro => apart j o hR ho i o0 hi hro
  have hext : Ext g g' nx.num := gold
  have hle : nx.num ≤ nx'.num := by omega
  refine ⟨g', hp', val, he, ⟨hext, hle, ⟨st.hr.os, st.hr.tape, st.hr.output, st.hr.size, st.hr.old, fun j o ho => ?_, fun j j' o o' ho ho' hne hro => ?_, fun j o ho hro => ?_, fun k hk => ?_, by omega⟩, fun j o ho => ?_, fun j hj hn => ?_, fun j hj hn => ?_, st.sz, st.dr, fun b hb hun => ?_, fun j o ho hro => ?_, fun j o ho hj => ?_⟩, hv.rv hE val hval⟩
  · -- objects
    rcases cases' j o ho with ⟨i, o', e1, e2, e3, e4, _, _⟩ | ⟨hR, hj, hho⟩
    · exact ⟨e4, e2.objR hE e3 (st.hr.obj i o' (st.sub i o' e1)).2⟩
    · exact ⟨by omega, (h1.obj j o hho).2.stay hext hle (gold j hj) (stays j o hR hj hho)⟩
  · -- apart
    rcases cases' j o ho with ⟨i, p, e1, e2, e3, e4, e5, e6⟩ | ⟨hR, hj, hho⟩
    · have hro1 : p.ro = false := by rw [← e2.ro]; exact hro
      rcases cases' j' o' ho' with ⟨i', p', f1, f2, f3, f4, f5, f6⟩ | ⟨hR', hj', hho'⟩
      · rw [e3, f3]
        refine st.hr.sep i i' p p' (st.sub i p e1) (st.sub i' p' f1) (fun e => hne ?_) hro1
        subst e
        rcases e6 with ⟨o0, a1, a2⟩ | ⟨a1, a2, a3⟩
        · rcases f6 with ⟨o0', b1, b2⟩ | ⟨b1, b2, b3⟩
          · exact fun1 i j j' a2 b2
          · exact absurd (low i j a2).1 (by omega)
        · rcases f6 with ⟨o0', b1, b2⟩ | ⟨b1, b2, b3⟩
          · exact absurd (low i j' b2).1 (by omega)
          · exact B.num_inj (by omega)
      · rw [e3, gold j' hj']
        rcases st.pl i p e1 hro1 with q | ⟨i2, o2, q1, q2, q3⟩
        · have := (h1.obj j' o' hho').2.lt; omega
        · rw [← q3]; exact apart j' o' hR' hho' i2 o2 q1 q2
    · rw [gold j hj]
      rcases cases' j' o' ho' with ⟨i', p', f1, f2, f3, f4, f5, f6⟩ | ⟨hR', hj', hho'⟩
      · rw [f3]
        rcases f6 with ⟨o0, a1, a2⟩ | ⟨a1, a2, a3⟩
        · obtain ⟨j2, q, d1, d2, d3⟩ := hpre i' o0 a1
          have := fun1 i' j2 j' d1 a2
          subst this
          rw [← gD i' j2 d1, gold j2 (low i' j2 d1).2]
          exact h1.sep j j2 o q hho (h2 j2 q d2) hne hro
        · rcases st.pl2 i' p' (st.sub i' p' f1) a1 with q | ⟨i2, o2, q1, q2⟩
          · have := (h1.obj j o hho).2.lt; omega
          · obtain ⟨j2, q, d1, d2, d3⟩ := hpre i2 o2 q1
            rw [← q2, hg0 i2 j2 d1]
            exact h1.sep j j2 o q hho (h2 j2 q d2) (fun e => hR ⟨i2, o2, q1, by rw [e]; exact d1⟩) hro
      · rw [gold j' hj']
        exact h1.sep j j' o o' hho hho' hne hro
  · -- new
    rcases cases' j o ho with ⟨i, p, e1, e2, e3, e4, e5, e6⟩ | ⟨hR, hj, hho⟩
    · rw [e3]; exact st.hr.new i p (st.sub i p e1) (by rw [← e2.ro]; exact hro)
    · rw [gold j hj]; exact h1.new j o hho hro
  · rw [gold (bOf k) (by show k < nx.num; omega)]; exact h1.glob k hk
  · -- sub
    by_cases hR : R j ∨ nx.num ≤ j.num
    · show (if R j ∨ nx.num ≤ j.num then j.get t' else hp j) = some o
      rw [if_pos hR]; exact ho
    · show (if R j ∨ nx.num ≤ j.num then j.get t' else hp j) = some o
      rw [if_neg hR]
      rw [hold j (by omega) (fun h => hR (.inl h))] at ho
      exact h2 j o ho
  · -- what is not computed with
    have hR : ¬ R j := fun ⟨i, o0, r1, r2⟩ => by
      obtain ⟨j2, p, d1, d2, d3⟩ := hpre i o0 r1
      have := fun1 i j2 j d1 r2
      subst this
      rw [hn] at d2; cases d2
    show (if R j ∨ nx.num ≤ j.num then j.get t' else hp j) = hp j
    rw [if_neg (fun h => h.elim hR (by omega))]
  · have hR : ¬ R j := fun ⟨i, o0, r1, r2⟩ => by
      obtain ⟨j2, p, d1, d2, d3⟩ := hpre i o0 r1
      have := fun1 i j2 j d1 r2
      subst this
      rw [hn] at d2; cases d2
    rw [hold j hj hR]; exact hn
  · refine st.un b hb fun i o0 hi hro => ?_
    obtain ⟨j, p, d1, d2, d3⟩ := hpre i o0 hi
    rw [hg0 i j d1]
    exact hun j p d2 (by rw [← d3.ro]; exact hro)
  · by_cases hR : R j ∨ nx.num ≤ j.num
    · have hpj : hp' j = some o := by
        show (if R j ∨ nx.num ≤ j.num then j.get t' else hp j) = some o
        rw [if_pos hR]; exact ho
      rcases cases' j o hpj with ⟨i, p, e1, e2, e3, e4, e5, e6⟩ | ⟨hR', hj, hho⟩
      · rw [e3]
        rcases st.pl i p e1 (by rw [← e2.ro]; exact hro) with q | ⟨i2, o2, q1, q2, q3⟩
        · exact .inl q
        · obtain ⟨j2, q, d1, d2, d3⟩ := hpre i2 o2 q1
          exact .inr ⟨j2, q, d2, by rw [← d3.ro]; exact q2, by rw [← q3, hg0 i2 j2 d1]⟩
      · exact absurd hR (fun h => h.elim hR' (by omega))
    · rw [hold j (by omega) (fun h => hR (.inl h))] at ho
      exact .inr ⟨j, o, ho, hro, by rw [gold j (by omega)]⟩
  · rcases cases' j o ho with ⟨i, p, e1, e2, e3, e4, e5, e6⟩ | ⟨hR', hj', hho⟩
    · rw [e3]
      rcases e6 with ⟨o0, a1, a2⟩ | ⟨a1, a2, a3⟩
      · exact absurd (low i j a2).2 (by omega)
      · rcases st.pl2 i p (st.sub i p e1) a1 with q | ⟨i2, o2, q1, q2⟩
        · exact .inl q
        · obtain ⟨j2, q, d1, d2, d3⟩ := hpre i2 o2 q1
          exact .inr ⟨j2, q, d2, by rw [← q2, hg0 i2 j2 d1]⟩
    · omega
end
end Go.Sim

/- Sim: facts: a call's run as data, and how it is met. -/
namespace Go.Sim
open Go Go.RowKit
open Go.Abs (TE TK SK TOK)

/-- An object, told. -/
inductive FO where
  | blk (ro : Bool) (sz : Nat) (cs : List V)
  | map (kt : Nat) (es : List (V × V))
/-- A call's run: the arguments, the objects it looks at, the next id, what comes back; the objects that are gone or written anew, the objects that are as they were; the objects then, the next id then. -/
structure Fact where
  args : List V
  pre : List (Nat × FO)
  m : Nat
  v : V
  gone : List Nat
  same : List Nat
  post : List (Nat × FO)
  n : Nat

noncomputable def FO.obj : FO → Obj
  | .blk ro sz cs => .blk ro sz cs.length (putN cs .lf 0)
  | .map kt es => .map kt es
noncomputable def objK {R : Type} (fo : FO) (K : Obj → R) : R := match fo with
  | .blk ro sz cs => setN cs .lf 0 fun tr => forceN cs.length fun h => K (.blk ro sz h tr)
  | .map kt es => K (.map kt es)
theorem objK_eq {R : Type} (fo : FO) (K : Obj → R) : objK fo K = K fo.obj := by
  cases fo with
  | blk ro sz cs => show setN cs .lf 0 _ = _; rw [setN_eq, forceN_eq]; rfl
  | map kt es => rfl
noncomputable def preK {R : Type} (l : List (Nat × FO)) : Tr Obj → (Tr Obj → R) → R :=
  List.rec (motive := fun _ => Tr Obj → (Tr Obj → R) → R) (fun t K => K t) (fun x _ ih t K => objK x.2 fun o => (bOf x.1).setK t (some o) fun t => ih t K) l
noncomputable def preT : List (Nat × FO) → Tr Obj → Tr Obj
  | [], t => t
  | x :: l, t => preT l ((bOf x.1).put t (some x.2.obj))
theorem preK_eq {R : Type} : ∀ (l : List (Nat × FO)) (t : Tr Obj) (K : Tr Obj → R), preK l t K = K (preT l t)
  | [], _, _ => rfl
  | x :: l, t, K => by
    show objK x.2 (fun o => (bOf x.1).setK t (some o) fun t => preK l t K) = _
    rw [objK_eq, B.setK_eq, preK_eq l]; rfl
theorem preT_get : ∀ (l : List (Nat × FO)) (t : Tr Obj) (i : B) (o : Obj), i.get (preT l t) = some o → (∃ fo, (i.num, fo) ∈ l ∧ o = fo.obj) ∨ i.get t = some o
  | [], _, _, _, h => .inr h
  | x :: l, t, i, o, h => by
    rcases preT_get l _ i o h with ⟨fo, h1, h2⟩ | h3
    · exact .inl ⟨fo, List.mem_cons_of_mem _ h1, h2⟩
    · rw [B.get_put] at h3
      split at h3
      · rename_i e
        subst e
        exact .inl ⟨x.2, List.mem_cons_self, (Option.some.inj h3).symm⟩
      · exact .inr h3
theorem preT_some : ∀ (l : List (Nat × FO)) (t : Tr Obj) (i : B), (i.get t).isSome ∨ (∃ fo, (i.num, fo) ∈ l) → (i.get (preT l t)).isSome
  | [], _, _, h => h.elim id fun ⟨_, h⟩ => by cases h
  | x :: l, t, i, h => by
    refine preT_some l _ i ?_
    rw [B.get_put]
    by_cases e : i = bOf x.1
    · left; rw [if_pos e]; rfl
    · rw [if_neg e]
      rcases h with h | ⟨fo, h⟩
      · exact .inl h
      · rcases List.mem_cons.1 h with h | h
        · exact absurd (B.num_inj (show i.num = x.1 from by rw [← h])) e
        · exact .inr ⟨fo, h⟩

/-! one value against another one -/
abbrev KU (R : Type) := Tr B → Tr B → R
noncomputable def bK {R : Type} (o : Option B) (K : B → R) (e : R) : R := Option.rec (motive := fun _ => (B → R) → R → R) (fun _ e => e) (fun v K _ => K v) o K e
theorem bK_eq {R : Type} (o : Option B) (K : B → R) (e : R) : bK o K e = match o with | some j => K j | none => e := by cases o <;> rfl
/-- An id against another one. -/
noncomputable def uI {R : Type} (ng m nx : Nat) (i j : B) (ρ σ : Tr B) (K : KU R) (e : R) : R :=
  ite' (Nat.blt i.n ng) (ite' (Nat.beq i.n j.n) (K ρ σ) e)
    (bK (i.get ρ) (fun j' => ite' (Nat.beq j'.n j.n) (K ρ σ) e)
      (ite' (and (and (Nat.blt i.n m) (Nat.ble ng j.n)) (Nat.blt j.n nx)) (bK (j.get σ) (fun _ => e) (i.setK ρ (some j) fun ρ => j.setK σ (some i) fun σ => K ρ σ)) e))
noncomputable def uL {R : Type} (u : V → V → Tr B → Tr B → KU R → R → R) (a : List V) : List V → Tr B → Tr B → KU R → R → R :=
  List.rec (motive := fun _ => List V → Tr B → Tr B → KU R → R → R) (fun b ρ σ K e => match b with | [] => K ρ σ | _ => e)
    (fun x _ ih b ρ σ K e => match b with | y :: ys => u x y ρ σ (fun ρ σ => ih ys ρ σ K e) e | [] => e) a
noncomputable def uV {R : Type} (ng m nx : Nat) : Nat → V → V → Tr B → Tr B → KU R → R → R
  | 0, _, _, _, _, _, e => e
  | d + 1, a, b, ρ, σ, K, e => match a, b with
    | .bool x, .bool y => ite' (eqBo x y) (K ρ σ) e
    | .int k x, .int k' y => ite' (and (Nat.beq (ikN k) (ikN k')) (eqI x y)) (K ρ σ) e
    | .str l x, .str l' y => ite' (strEq l x l' y) (K ρ σ) e
    | .nilp, .nilp => K ρ σ
    | .ptr i o, .ptr j o' => ite' (Nat.beq o o') (uI ng m nx i j ρ σ K e) e
    | .nils, .nils => K ρ σ
    | .emps, .emps => K ρ σ
    | .sl i sz o l c, .sl j sz' o' l' c' => ite' (and (and (Nat.beq sz sz') (Nat.beq o o')) (and (Nat.beq l l') (eqO c c'))) (uI ng m nx i j ρ σ K e) e
    | .nilm, .nilm => K ρ σ
    | .map i, .map j => uI ng m nx i j ρ σ K e
    | .nilf, .nilf => K ρ σ
    | .fn f fs cs, .fn f' fs' cs' => ite' (Nat.beq f f') (uL (uV ng m nx d) fs fs' ρ σ (fun ρ σ => uL (uV ng m nx d) cs cs' ρ σ K e) e) e
    | .nili, .nili => K ρ σ
    | .ifc t v, .ifc t' v' => ite' (Nat.beq t t') (uV ng m nx d v v' ρ σ K e) e
    | .agg cs, .agg cs' => uL (uV ng m nx d) cs cs' ρ σ K e
    | .tup cs, .tup cs' => uL (uV ng m nx d) cs cs' ρ σ K e
    | .any, .any => K ρ σ
    | _, _ => e

/-- The two tables fit. -/
structure UI (ng m nx : Nat) (ρ σ : Tr B) : Prop where
  to : ∀ i j : B, i.get ρ = some j → j.get σ = some i ∧ ng ≤ i.num ∧ i.num < m ∧ ng ≤ j.num ∧ j.num < nx
  back : ∀ i j : B, j.get σ = some i → i.get ρ = some j
def Dof (ng : Nat) (ρ : Tr B) (i j : B) : Prop := (i.num < ng ∧ i = j) ∨ (ng ≤ i.num ∧ i.get ρ = some j)
def XtR (ρ ρ' : Tr B) : Prop := ∀ i j : B, i.get ρ = some j → i.get ρ' = some j
theorem Dof.mono {ng : Nat} {ρ ρ' : Tr B} (h : XtR ρ ρ') {i j : B} (hd : Dof ng ρ i j) : Dof ng ρ' i j := hd.imp id fun ⟨h1, h2⟩ => ⟨h1, h i j h2⟩
/-- What a comparison gives. -/
def Gives {R : Type} (ng m nx : Nat) (ρ σ : Tr B) (K : KU R) (r : R) (Q : Tr B → Prop) : Prop := ∃ ρ' σ', K ρ' σ' = r ∧ UI ng m nx ρ' σ' ∧ XtR ρ ρ' ∧ Q ρ'
theorem Gives.here {R : Type} {ng m nx : Nat} {ρ σ : Tr B} {K : KU R} {r : R} {Q : Tr B → Prop} (h : K ρ σ = r) (hu : UI ng m nx ρ σ) (hq : Q ρ) : Gives ng m nx ρ σ K r Q := ⟨ρ, σ, h, hu, fun _ _ h => h, hq⟩

theorem uI_ok {R : Type} {ng m nx : Nat} {i j : B} {ρ σ : Tr B} {K : KU R} {e r : R} (h : uI ng m nx i j ρ σ K e = r) (he : e ≠ r) (hu : UI ng m nx ρ σ) : Gives ng m nx ρ σ K r fun ρ => Dof ng ρ i j := by
  unfold uI at h
  rw [ite'_eq] at h
  split at h
  · rename_i h1
    obtain ⟨h2, h3⟩ := ite'_ok h he
    exact .here h3 hu (.inl ⟨blt_iff.1 h1, B.num_inj (beq_iff.1 h2)⟩)
  · rename_i h1
    have h1 : ng ≤ i.num := by
      have : ¬ i.n < ng := fun h' => h1 (blt_iff.2 h')
      exact Nat.not_lt.1 this
    rw [bK_eq] at h
    split at h
    · rename_i j' hj
      obtain ⟨h2, h3⟩ := ite'_ok h he
      have : j' = j := B.num_inj (beq_iff.1 h2)
      subst this
      exact .here h3 hu (.inr ⟨h1, hj⟩)
    · rename_i hj
      obtain ⟨h2, h3⟩ := ite'_ok h he
      obtain ⟨h4, h5⟩ := and_ok h2
      obtain ⟨h6, h7⟩ := and_ok h4
      have h5 : j.num < nx := blt_iff.1 h5
      have h6 : i.num < m := blt_iff.1 h6
      have h7 : ng ≤ j.num := ble_iff.1 h7
      rw [bK_eq] at h3
      split at h3
      · exact absurd h3 he
      · rename_i hs
        rw [B.setK_eq, B.setK_eq] at h3
        refine ⟨_, _, h3, ⟨fun a b hab => ?_, fun a b hab => ?_⟩, fun a b hab => ?_, .inr ⟨h1, by rw [B.get_put, if_pos rfl]⟩⟩
        · rw [B.get_put] at hab
          split at hab
          · rename_i e1
            cases hab
            subst e1
            exact ⟨by rw [B.get_put, if_pos rfl], h1, h6, h7, h5⟩
          · obtain ⟨q1, q2⟩ := hu.to a b hab
            refine ⟨?_, q2⟩
            rw [B.get_put, if_neg (fun e1 => by subst e1; rw [hs] at q1; cases q1)]
            exact q1
        · rw [B.get_put] at hab
          split at hab
          · rename_i e1
            cases hab
            subst e1
            rw [B.get_put, if_pos rfl]
          · have q := hu.back a b hab
            rw [B.get_put, if_neg (fun e1 => by subst e1; rw [hj] at q; cases q)]
            exact q
        · rw [B.get_put, if_neg (fun e1 => by subst e1; rw [hj] at hab; cases hab)]
          exact hab

/-- A comparison is sound. -/
def USound (R : Type) (ng m nx : Nat) (u : V → V → Tr B → Tr B → KU R → R → R) : Prop := ∀ a b ρ σ K e r, u a b ρ σ K e = r → e ≠ r → UI ng m nx ρ σ → Gives ng m nx ρ σ K r fun ρ => RenV (Dof ng ρ) a b
theorem uL_ok {R : Type} {ng m nx : Nat} {u : V → V → Tr B → Tr B → KU R → R → R} (hu : USound R ng m nx u) : ∀ (a b : List V) (ρ σ : Tr B) (K : KU R) (e r : R), uL u a b ρ σ K e = r → e ≠ r → UI ng m nx ρ σ → Gives ng m nx ρ σ K r fun ρ => RenL (Dof ng ρ) a b
  | [], [], ρ, σ, K, e, r, h, _, hi => .here h hi .nil
  | [], _ :: _, ρ, σ, K, e, r, h, he, _ => absurd h he
  | _ :: _, [], ρ, σ, K, e, r, h, he, _ => absurd h he
  | x :: a, y :: b, ρ, σ, K, e, r, h, he, hi => by
    have h' : u x y ρ σ (fun ρ σ => uL u a b ρ σ K e) e = r := h
    obtain ⟨ρ1, σ1, k1, k2, k3, k4⟩ := hu x y ρ σ _ e r h' he hi
    obtain ⟨ρ2, σ2, k5, k6, k7, k8⟩ := uL_ok hu a b ρ1 σ1 K e r k1 he k2
    exact ⟨ρ2, σ2, k5, k6, fun i j hij => k7 i j (k3 i j hij), .cons (k4.mono fun i j hd => hd.mono k7) k8⟩

theorem strEq_iff {l x l' y : Nat} (h : strEq l x l' y = true) : l = l' ∧ x = y := by
  obtain ⟨h1, h2⟩ := and_ok h
  exact ⟨beq_iff.1 h1, beq_iff.1 h2⟩

theorem uV_ok {R : Type} {ng m nx : Nat} : ∀ d, USound R ng m nx (uV ng m nx d)
  | 0 => fun a b ρ σ K e r h he _ => absurd h he
  | d + 1 => fun a b ρ σ K e r h he hi => by
    have ih := uV_ok (R := R) (ng := ng) (m := m) (nx := nx) d
    unfold uV at h
    split at h
    · obtain ⟨h1, h2⟩ := ite'_ok h he
      have := eqBo_iff.1 h1; subst this
      exact .here h2 hi (.bool _)
    · obtain ⟨h1, h2⟩ := ite'_ok h he
      obtain ⟨h3, h4⟩ := and_ok h1
      have := ikN_inj h3; subst this
      have := eqI_iff h4; subst this
      exact .here h2 hi (.int _ _)
    · obtain ⟨h1, h2⟩ := ite'_ok h he
      obtain ⟨rfl, rfl⟩ := strEq_iff h1
      exact .here h2 hi (.str _ _)
    · exact .here h hi .nilp
    · obtain ⟨h1, h2⟩ := ite'_ok h he
      have := beq_iff.1 h1; subst this
      obtain ⟨ρ', σ', k1, k2, k3, k4⟩ := uI_ok h2 he hi
      exact ⟨ρ', σ', k1, k2, k3, .ptr _ _ _ k4⟩
    · exact .here h hi .nils
    · exact .here h hi .emps
    · obtain ⟨h1, h2⟩ := ite'_ok h he
      obtain ⟨h3, h4⟩ := and_ok h1
      obtain ⟨h5, h6⟩ := and_ok h3
      obtain ⟨h7, h8⟩ := and_ok h4
      have := beq_iff.1 h5; subst this
      have := beq_iff.1 h6; subst this
      have := beq_iff.1 h7; subst this
      have := eqO_iff h8; subst this
      obtain ⟨ρ', σ', k1, k2, k3, k4⟩ := uI_ok h2 he hi
      exact ⟨ρ', σ', k1, k2, k3, .sl _ _ _ _ _ _ k4⟩
    · exact .here h hi .nilm
    · obtain ⟨ρ', σ', k1, k2, k3, k4⟩ := uI_ok h he hi
      exact ⟨ρ', σ', k1, k2, k3, .map _ _ k4⟩
    · exact .here h hi .nilf
    · obtain ⟨h1, h2⟩ := ite'_ok h he
      have := beq_iff.1 h1; subst this
      obtain ⟨ρ1, σ1, k1, k2, k3, k4⟩ := uL_ok ih _ _ _ _ _ _ _ h2 he hi
      obtain ⟨ρ2, σ2, k5, k6, k7, k8⟩ := uL_ok ih _ _ _ _ _ _ _ k1 he k2
      have k4 := k4.mono fun i j (hd : Dof ng ρ1 i j) => hd.mono k7
      exact ⟨ρ2, σ2, k5, k6, fun i j hij => k7 i j (k3 i j hij), .fn _ _ _ _ _ k4.1 k4.2 k8.1 k8.2⟩
    · exact .here h hi .nili
    · obtain ⟨h1, h2⟩ := ite'_ok h he
      have := beq_iff.1 h1; subst this
      obtain ⟨ρ1, σ1, k1, k2, k3, k4⟩ := ih _ _ _ _ _ _ _ h2 he hi
      exact ⟨ρ1, σ1, k1, k2, k3, .ifc _ _ _ k4⟩
    · obtain ⟨ρ1, σ1, k1, k2, k3, k4⟩ := uL_ok ih _ _ _ _ _ _ _ h he hi
      exact ⟨ρ1, σ1, k1, k2, k3, .agg _ _ k4.1 k4.2⟩
    · obtain ⟨ρ1, σ1, k1, k2, k3, k4⟩ := uL_ok ih _ _ _ _ _ _ _ h he hi
      exact ⟨ρ1, σ1, k1, k2, k3, .tup _ _ k4.1 k4.2⟩
    · exact .here h hi .any
    · exact absurd h he

/-! objects -/
/-- All that is known of an object, at other ids. -/
inductive UO (D : B → B → Prop) : FO → Obj → Prop
  | blk (ro : Bool) (sz : Nat) (cs : List V) (cs' : Tr V) : (∀ (j : Nat) a, cs[j]? = some a → ∃ b, (bOf j).get cs' = some b ∧ RenV D a b) → UO D (.blk ro sz cs) (.blk ro sz cs.length cs')
  | map (kt : Nat) (es es' : List (V × V)) : es.length = es'.length → (∀ (i : Nat) e e', es[i]? = some e → es'[i]? = some e' → RenV D e.1 e'.1 ∧ RenV D e.2 e'.2) → UO D (.map kt es) (.map kt es')
theorem UO.mono {D D' : B → B → Prop} (hD : ∀ i j, D i j → D' i j) {fo : FO} {o : Obj} (h : UO D fo o) : UO D' fo o := by
  cases h with
  | blk ro sz cs cs' h => exact .blk ro sz cs cs' fun j a ha => by obtain ⟨b, h1, h2⟩ := h j a ha; exact ⟨b, h1, h2.mono hD⟩
  | map kt es es' h1 h2 => exact .map kt es es' h1 fun i e e' he he' => by obtain ⟨a, b⟩ := h2 i e e' he he'; exact ⟨a.mono hD, b.mono hD⟩
noncomputable def uCs {R : Type} (u : V → V → Tr B → Tr B → KU R → R → R) (cs' : Tr V) (cs : List V) : Nat → Tr B → Tr B → KU R → R → R :=
  List.rec (motive := fun _ => Nat → Tr B → Tr B → KU R → R → R) (fun _ ρ σ K _ => K ρ σ)
    (fun x _ ih off ρ σ K e => Option.rec (motive := fun _ => R) e (fun y => u x y ρ σ (fun ρ σ => ih (Nat.succ off) ρ σ K e) e) ((bOf off).get cs')) cs
noncomputable def uEs {R : Type} (u : V → V → Tr B → Tr B → KU R → R → R) (es : List (V × V)) : List (V × V) → Tr B → Tr B → KU R → R → R :=
  List.rec (motive := fun _ => List (V × V) → Tr B → Tr B → KU R → R → R) (fun b ρ σ K e => match b with | [] => K ρ σ | _ => e)
    (fun x _ ih b ρ σ K e => match b with | y :: ys => u x.1 y.1 ρ σ (fun ρ σ => u x.2 y.2 ρ σ (fun ρ σ => ih ys ρ σ K e) e) e | [] => e) es
noncomputable def uO {R : Type} (u : V → V → Tr B → Tr B → KU R → R → R) (fo : FO) (o : Obj) (ρ σ : Tr B) (K : KU R) (e : R) : R := match fo, o with
  | .blk ro sz cs, .blk ro' sz' hi cs' => ite' (and (eqBo ro ro') (and (Nat.beq sz sz') (Nat.beq cs.length hi))) (uCs u cs' cs 0 ρ σ K e) e
  | .map kt es, .map kt' es' => ite' (Nat.beq kt kt') (uEs u es es' ρ σ K e) e
  | _, _ => e
noncomputable def uOs {R : Type} (u : V → V → Tr B → Tr B → KU R → R → R) (ng : Nat) (t : Tr Obj) (l : List (Nat × FO)) : Tr B → Tr B → KU R → R → R :=
  List.rec (motive := fun _ => Tr B → Tr B → KU R → R → R) (fun ρ σ K _ => K ρ σ)
    (fun x _ ih ρ σ K e => ite' (Nat.blt x.1 ng) (Option.rec (motive := fun _ => R) e (fun o => uO u x.2 o ρ σ (fun ρ σ => ih ρ σ K e) e) ((bOf x.1).get t))
      (bK ((bOf x.1).get ρ) (fun j => Option.rec (motive := fun _ => R) e (fun o => uO u x.2 o ρ σ (fun ρ σ => ih ρ σ K e) e) (j.get t)) e)) l

theorem uCs_ok {R : Type} {ng m nx : Nat} {u : V → V → Tr B → Tr B → KU R → R → R} (hu : USound R ng m nx u) {cs' : Tr V} : ∀ (cs : List V) (off : Nat) (ρ σ : Tr B) (K : KU R) (e r : R), uCs u cs' cs off ρ σ K e = r → e ≠ r → UI ng m nx ρ σ →
    Gives ng m nx ρ σ K r fun ρ => ∀ (j : Nat) a, cs[j]? = some a → ∃ b, (bOf (off + j)).get cs' = some b ∧ RenV (Dof ng ρ) a b
  | [], off, ρ, σ, K, e, r, h, _, hi => .here h hi fun j a ha => by simp at ha
  | x :: cs, off, ρ, σ, K, e, r, h, he, hi => by
    have h' : Option.rec (motive := fun _ => R) e (fun y => u x y ρ σ (fun ρ σ => uCs u cs' cs (off + 1) ρ σ K e) e) ((bOf off).get cs') = r := h
    cases hg : (bOf off).get cs' with
    | none => rw [hg] at h'; exact absurd h' he
    | some y =>
      rw [hg] at h'
      obtain ⟨ρ1, σ1, k1, k2, k3, k4⟩ := hu x y ρ σ _ e r h' he hi
      obtain ⟨ρ2, σ2, k5, k6, k7, k8⟩ := uCs_ok hu cs (off + 1) ρ1 σ1 K e r k1 he k2
      refine ⟨ρ2, σ2, k5, k6, fun i j hij => k7 i j (k3 i j hij), fun j a ha => ?_⟩
      cases j with
      | zero => simp at ha; subst ha; exact ⟨y, hg, k4.mono fun i j hd => hd.mono k7⟩
      | succ j =>
        simp at ha
        obtain ⟨b, q1, q2⟩ := k8 j a ha
        exact ⟨b, by rw [← q1]; congr 2; omega, q2⟩
theorem uEs_ok {R : Type} {ng m nx : Nat} {u : V → V → Tr B → Tr B → KU R → R → R} (hu : USound R ng m nx u) : ∀ (es es' : List (V × V)) (ρ σ : Tr B) (K : KU R) (e r : R), uEs u es es' ρ σ K e = r → e ≠ r → UI ng m nx ρ σ →
    Gives ng m nx ρ σ K r fun ρ => es.length = es'.length ∧ ∀ (i : Nat) e e', es[i]? = some e → es'[i]? = some e' → RenV (Dof ng ρ) e.1 e'.1 ∧ RenV (Dof ng ρ) e.2 e'.2
  | [], [], ρ, σ, K, e, r, h, _, hi => .here h hi ⟨rfl, fun i e e' he => by simp at he⟩
  | [], _ :: _, ρ, σ, K, e, r, h, he, _ => absurd h he
  | _ :: _, [], ρ, σ, K, e, r, h, he, _ => absurd h he
  | x :: es, y :: es', ρ, σ, K, e, r, h, he, hi => by
    have h' : u x.1 y.1 ρ σ (fun ρ σ => u x.2 y.2 ρ σ (fun ρ σ => uEs u es es' ρ σ K e) e) e = r := h
    obtain ⟨ρ0, σ0, k1, k2, k3, k4⟩ := hu _ _ ρ σ _ e r h' he hi
    obtain ⟨ρ1, σ1, l1, l2, l3, l4⟩ := hu _ _ ρ0 σ0 _ e r k1 he k2
    obtain ⟨ρ2, σ2, k5, k6, k7, k8, k9⟩ := uEs_ok hu es es' ρ1 σ1 K e r l1 he l2
    refine ⟨ρ2, σ2, k5, k6, fun i j hij => k7 i j (l3 i j (k3 i j hij)), by simp [k8], fun i a b ha hb => ?_⟩
    cases i with
    | zero =>
      simp at ha hb
      subst ha; subst hb
      exact ⟨k4.mono fun i j hd => (hd.mono l3).mono k7, l4.mono fun i j hd => hd.mono k7⟩
    | succ i => simp at ha hb; exact k9 i a b ha hb
theorem uO_ok {R : Type} {ng m nx : Nat} {u : V → V → Tr B → Tr B → KU R → R → R} (hu : USound R ng m nx u) {fo : FO} {o : Obj} {ρ σ : Tr B} {K : KU R} {e r : R} (h : uO u fo o ρ σ K e = r) (he : e ≠ r) (hi : UI ng m nx ρ σ) :
    Gives ng m nx ρ σ K r fun ρ => UO (Dof ng ρ) fo o := by
  unfold uO at h
  split at h
  · rename_i ro sz cs ro' sz' hi' cs'
    obtain ⟨h1, h2⟩ := ite'_ok h he
    obtain ⟨h3, h4⟩ := and_ok h1
    obtain ⟨h5, h6⟩ := and_ok h4
    have := eqBo_iff.1 h3; subst this
    have := beq_iff.1 h5; subst this
    have := beq_iff.1 h6; subst this
    obtain ⟨ρ1, σ1, k1, k2, k3, k4⟩ := uCs_ok hu _ _ _ _ _ _ _ h2 he hi
    exact ⟨ρ1, σ1, k1, k2, k3, .blk _ _ _ _ fun j a ha => by simpa using k4 j a ha⟩
  · obtain ⟨h1, h2⟩ := ite'_ok h he
    have := beq_iff.1 h1; subst this
    obtain ⟨ρ1, σ1, k1, k2, k3, k4, k5⟩ := uEs_ok hu _ _ _ _ _ _ _ h2 he hi
    exact ⟨ρ1, σ1, k1, k2, k3, .map _ _ _ k4 k5⟩
  · exact absurd h he
theorem uOs_ok {R : Type} {ng m nx : Nat} {u : V → V → Tr B → Tr B → KU R → R → R} (hu : USound R ng m nx u) {t : Tr Obj} : ∀ (l : List (Nat × FO)) (ρ σ : Tr B) (K : KU R) (e r : R), uOs u ng t l ρ σ K e = r → e ≠ r → UI ng m nx ρ σ →
    Gives ng m nx ρ σ K r fun ρ => ∀ x ∈ l, ∃ j o, Dof ng ρ (bOf x.1) j ∧ j.get t = some o ∧ UO (Dof ng ρ) x.2 o
  | [], ρ, σ, K, e, r, h, _, hi => .here h hi fun x hx => by cases hx
  | x :: l, ρ, σ, K, e, r, h, he, hi => by
    have h' : ite' (Nat.blt x.1 ng) (Option.rec (motive := fun _ => R) e (fun o => uO u x.2 o ρ σ (fun ρ σ => uOs u ng t l ρ σ K e) e) ((bOf x.1).get t))
      (bK ((bOf x.1).get ρ) (fun j => Option.rec (motive := fun _ => R) e (fun o => uO u x.2 o ρ σ (fun ρ σ => uOs u ng t l ρ σ K e) e) (j.get t)) e) = r := h
    have key : ∀ j, Dof ng ρ (bOf x.1) j → Option.rec (motive := fun _ => R) e (fun o => uO u x.2 o ρ σ (fun ρ σ => uOs u ng t l ρ σ K e) e) (j.get t) = r →
        Gives ng m nx ρ σ K r fun ρ => ∀ y ∈ x :: l, ∃ j o, Dof ng ρ (bOf y.1) j ∧ j.get t = some o ∧ UO (Dof ng ρ) y.2 o := fun j hd hj => by
      cases hg : j.get t with
      | none => rw [hg] at hj; exact absurd hj he
      | some o =>
        rw [hg] at hj
        obtain ⟨ρ1, σ1, k1, k2, k3, k4⟩ := uO_ok hu hj he hi
        obtain ⟨ρ2, σ2, k5, k6, k7, k8⟩ := uOs_ok hu l ρ1 σ1 K e r k1 he k2
        refine ⟨ρ2, σ2, k5, k6, fun i j hij => k7 i j (k3 i j hij), fun y hy => ?_⟩
        rcases List.mem_cons.1 hy with rfl | hy
        · exact ⟨j, o, (hd.mono k3).mono k7, hg, k4.mono fun i j hd => hd.mono k7⟩
        · exact k8 y hy
    rw [ite'_eq] at h'
    split at h'
    · rename_i h1
      exact key (bOf x.1) (.inl ⟨blt_iff.1 h1, rfl⟩) h'
    · rename_i h1
      rw [bK_eq] at h'
      split at h'
      · rename_i j hj
        exact key j (.inr ⟨by have : ¬ x.1 < ng := (fun h2 => h1 (blt_iff.2 h2)); exact Nat.not_lt.1 this, hj⟩) h'
      · exact absurd h' he
end Go.Sim
