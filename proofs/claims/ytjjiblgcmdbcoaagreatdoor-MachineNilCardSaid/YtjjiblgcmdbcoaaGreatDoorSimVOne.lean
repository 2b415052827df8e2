/- Sim: a call that asks for the capacity of its first argument: settled for each capacity (slices.Insert of one element). -/
import Derived.Test.YtjjiblgcmdbcoaaGreatDoorSimW3And
import Derived.Lib.Overlaps
set_option linter.unusedVariables false
set_option linter.unusedSimpArgs false
set_option linter.all false
namespace Go.Sim
open Go Go.RowKit
open Go.Abs (TE TK SK TOK patch)

section
variable {P : Program} {T : Nat → TE} {w0 : World} {ng : Nat}

/-- More is known of where an object ends. -/
theorem HR.know {g : Gh} {hp : B → Option Obj} {nx : B} {w : World} (h : HR T w0 ng g hp nx w) {a : B} {ro : Bool} {s s' hi : Nat} {cs : Tr V} (ha : hp a = some (.blk ro s hi cs)) (hs : s' ≤ (g a).n) : HR T w0 ng g (updP hp a (some (.blk ro s' hi cs))) nx w := by
  have key : ∀ i o, updP hp a (some (.blk ro s' hi cs)) i = some o → ∃ o', hp i = some o' ∧ o.ro = o'.ro := fun i o ho => by
    unfold updP at ho
    split at ho
    · rename_i e; subst e; cases ho; exact ⟨_, ha, rfl⟩
    · exact ⟨o, ho, rfl⟩
  refine ⟨h.os, h.tape, h.output, h.size, h.old, fun i o ho => ?_, fun i i' o o' ho ho' hne hro => ?_, fun i o ho hro => ?_, h.glob, h.ngx⟩
  · unfold updP at ho
    split at ho
    · rename_i e
      subst e
      cases ho
      obtain ⟨h1, cur, Tb, fz, e1, e2, e3, e4, e5⟩ := h.obj i _ ha
      exact ⟨h1, cur, Tb, fz, e1, e2, e3, hs, e5⟩
    · exact h.obj i o ho
  · obtain ⟨p, p1, p2⟩ := key i o ho
    obtain ⟨q, q1, q2⟩ := key i' o' ho'
    exact h.sep i i' p q p1 q1 hne (by rw [← p2]; exact hro)
  · obtain ⟨p, p1, p2⟩ := key i o ho
    exact h.new i p p1 (by rw [← p2]; exact hro)

/-- A step from where more is known of one object. -/
theorem Step.from {g g' : Gh} {hp hp' : B → Option Obj} {t t' : Tr Obj} {nx nx' : B} {w w' : World} {a : B} {s s' hi : Nat} {cs : Tr V} (ha : a.get t = some (.blk false s hi cs))
    (h : Step T w0 ng g (updP hp a (some (.blk false s' hi cs))) (a.put t (some (.blk false s' hi cs))) nx w g' hp' t' nx' w') : Step T w0 ng g hp t nx w g' hp' t' nx' w' := by
  have dom : ∀ i : B, i.get t = none → i.get (a.put t (some (.blk false s' hi cs))) = none := fun i hi => by
    rw [B.get_put, if_neg (fun e => by rw [e, ha] at hi; cases hi)]; exact hi
  have ob : ∀ (i : B) o, i.get (a.put t (some (.blk false s' hi cs))) = some o → ∃ o1, i.get t = some o1 ∧ o1.ro = o.ro := fun i o ho => by
    rw [B.get_put] at ho
    split at ho
    · rename_i e; subst e; cases ho; exact ⟨_, ha, rfl⟩
    · exact ⟨o, ho, rfl⟩
  refine ⟨h.ext, h.le, h.hr, h.sub, fun i hi hn => ?_, fun i hi hn => h.dm i hi (dom i hn), h.sz, h.dr, fun b hb hn => h.un b hb fun i o h1 h2 => ?_, fun i o h1 h2 => ?_, fun i o h1 h2 => ?_⟩
  · rw [h.fr i hi (dom i hn)]
    unfold updP
    rw [if_neg (fun e => by rw [e, ha] at hn; cases hn)]
  · obtain ⟨o1, q1, q2⟩ := ob i o h1
    exact hn i o1 q1 (by rw [q2]; exact h2)
  · rcases h.pl i o h1 h2 with q | ⟨i0, o0, q1, q2, q3⟩
    · exact .inl q
    · obtain ⟨o1, r1, r2⟩ := ob i0 o0 q1
      exact .inr ⟨i0, o1, r1, by rw [r2]; exact q2, q3⟩
  · rcases h.pl2 i o h1 h2 with q | ⟨i0, o0, q1, q2⟩
    · exact .inl q
    · obtain ⟨o1, r1, r2⟩ := ob i0 o0 q1
      exact .inr ⟨i0, o1, r1, q2⟩

theorem FO.In.ro {fo : FO} {o : Obj} (h : fo.In o) : fo.obj.ro = o.ro := by cases h <;> rfl
theorem FO.In.objR {fo : FO} {o : Obj} (h : fo.In o) {g : Gh} {n : Nat} {w : World} {id : B} (hr : ObjR T g n w id o) : ObjR T g n w id fo.obj := by
  cases h with
  | map kt es => exact hr
  | blk ro sz sz' hi cs cs' h1 h2 =>
    obtain ⟨cur, Tb, fz, e1, e2, e3, e4, e5⟩ := hr
    refine ⟨cur, Tb, fz, e1, e2, e3, Nat.le_trans h1 e4, fun j v hj => ?_⟩
    rw [get_putN] at hj
    split at hj
    · rename_i hlt
      rw [Nat.sub_zero] at hj
      exact ⟨by omega, (e5 j v (h2 j v hj)).2⟩
    · rw [B.get_lf] at hj; cases hj

open Classical in
/-- Less is told of the heap behind a step. -/
theorem Step.less {g g' : Gh} {hp hp' : B → Option Obj} {t t' t'' : Tr Obj} {nx nx' : B} {w w' : World} (h : Step T w0 ng g hp t nx w g' hp' t' nx' w') (hs : ∀ (i : B) o, i.get t'' = some o → ∃ (fo : FO) (o' : Obj), o = fo.obj ∧ i.get t' = some o' ∧ fo.In o') :
    ∃ hp'', Step T w0 ng g hp t nx w g' hp'' t'' nx' w' := by
  have hnone : ∀ i : B, i.get t' = none → i.get t'' = none := fun i hi => by
    cases h1 : i.get t'' with
    | none => rfl
    | some o => obtain ⟨_, o', _, h2, _⟩ := hs i o h1; rw [hi] at h2; cases h2
  let hp'' : B → Option Obj := fun i => if (i.get t').isSome then i.get t'' else hp' i
  have key : ∀ i o, hp'' i = some o → (∃ (fo : FO) (o' : Obj), o = fo.obj ∧ hp' i = some o' ∧ fo.In o') ∨ hp' i = some o := fun i o ho => by
    have ho : (if (i.get t').isSome then i.get t'' else hp' i) = some o := ho
    split at ho
    · obtain ⟨fo, o', h1, h2, h3⟩ := hs i o ho
      exact .inl ⟨fo, o', h1, h.sub i o' h2, h3⟩
    · exact .inr ho
  have keyro : ∀ i o, hp'' i = some o → ∃ o', hp' i = some o' ∧ o'.ro = o.ro := fun i o ho => by
    rcases key i o ho with ⟨fo, o', h1, h2, h3⟩ | h1
    · exact ⟨o', h2, by rw [h1, h3.ro]⟩
    · exact ⟨o, h1, rfl⟩
  refine ⟨hp'', h.ext, h.le, ⟨h.hr.os, h.hr.tape, h.hr.output, h.hr.size, h.hr.old, fun i o ho => ?_, fun i i' o o' ho ho' hne hro => ?_, fun i o ho hro => ?_, h.hr.glob, h.hr.ngx⟩, fun i o ho => ?_, fun i hi hn => ?_, fun i hi hn => hnone i (h.dm i hi hn), h.sz, h.dr, h.un, fun i o h1 h2 => ?_, fun i o h1 h2 => ?_⟩
  · rcases key i o ho with ⟨fo, o', h1, h2, h3⟩ | h1
    · obtain ⟨q1, q2⟩ := h.hr.obj i o' h2
      exact ⟨q1, by rw [h1]; exact h3.objR q2⟩
    · exact h.hr.obj i o h1
  · obtain ⟨p, p1, p2⟩ := keyro i o ho
    obtain ⟨q, q1, q2⟩ := keyro i' o' ho'
    exact h.hr.sep i i' p q p1 q1 hne (by rw [p2]; exact hro)
  · obtain ⟨p, p1, p2⟩ := keyro i o ho
    exact h.hr.new i p p1 (by rw [p2]; exact hro)
  · obtain ⟨fo, o', h1, h2, h3⟩ := hs i o ho
    show (if (i.get t').isSome then i.get t'' else hp' i) = some o
    rw [if_pos (by rw [h2]; rfl)]; exact ho
  · show (if (i.get t').isSome then i.get t'' else hp' i) = hp i
    rw [if_neg (by rw [h.dm i hi hn]; simp)]
    exact h.fr i hi hn
  · obtain ⟨fo, o', q1, q2, q3⟩ := hs i o h1
    exact h.pl i o' q2 (by rw [← q3.ro, ← q1]; exact h2)
  · obtain ⟨o', q1, q2⟩ := keyro i o h1
    exact h.pl2 i o' q1 h2

/-- A slice's block under a new id. -/
theorem move_step {g : Gh} {hp : B → Option Obj} {t : Tr Obj} {nx : B} {w : World} (h : HR T w0 ng g hp nx w) (hs : Sub t hp) {id : B} {s0 hi : Nat} {cs : Tr V} (hg : id.get t = some (.blk false s0 hi cs)) {sz off len : Nat} {cap : Option Nat} {cs0 : Tr V} {val : Value}
    (hold : ∀ j v, (bOf j).get cs0 = some v → j < len * sz ∧ (bOf (off + j)).get cs = some v) (hv : RV g nx.num (.sl id sz off len cap) val) :
    ∃ g' hp', Step T w0 ng g hp t nx w g' hp' (nx.put (id.put t none) (some (.blk false (len * sz) (len * sz) cs0))) nx.inc w ∧ RV g' nx.inc.num (.sl nx sz 0 len none) val := by
  obtain ⟨cur, Tb, fz, e1, e2, e3, e4, e5⟩ := h.blk hs hg
  have hfz := e2 rfl
  subst hfz
  cases hv with
  | sl _ _ _ _ _ a c q1 q2 q3 q4 q5 q6 q7 =>
    obtain ⟨g', hp', st, hr⟩ := moved_step (T := T) (w0 := w0) (ng := ng) h hs hg (sz := sz) (off := off) (len := len) (m := 0) (cs0 := cs0) (ys := []) (news := []) (c := c) (a := a) hold (by simp) (by simp) (fun i c x hc => by simp at hc) q2 q3 q5 q6 q7 e1
    have hw : w.setRow (g id).b (patch cur ((g id).o + off + len * sz) []) = w := by
      have : patch cur ((g id).o + off + len * sz) [] = cur := by simp [patch]
      rw [this]
      exact setRow_self w (g id).b cur Tb (0, 0) e1
    rw [hw] at st
    exact ⟨g', hp', st, hr⟩
end

/-! the fact -/
noncomputable def insF (sz off len a s0 : Nat) (cells : List V) (rest : List V) (others : List (Nat × FO)) (news : List V) (m : Nat) : Fact :=
  ⟨.sl ⟨a⟩ sz off len none :: rest, (a, .blk false s0 cells) :: others, m, .sl ⟨m⟩ sz 0 (Nat.succ len) none, [a], others.map (·.1), [(m, .blk false (Nat.mul (Nat.succ len) sz) news)], Nat.succ m⟩
noncomputable def insChkA (sz len m : Nat) (others : List (Nat × FO)) (news : List V) (r : FR) : Bool := FR.rec (motive := fun _ => Bool) (fun _ => false) (fun v t nx =>
  and (asSl v (fun id sz' off' len' _ => and (and (Nat.beq id.n m) (Nat.beq sz' sz)) (and (Nat.beq off' 0) (Nat.beq len' (Nat.succ len)))) false)
    (and (Nat.beq nx.n (Nat.succ m)) (and (inO (.blk false (Nat.mul (Nat.succ len) sz) news) ((bOf m).get t)) (List.all others fun x => inO x.2 ((bOf x.1).get t))))) r
noncomputable def insChkB (sz off len a m : Nat) (others : List (Nat × FO)) (news : List V) (r : FR) : Bool := FR.rec (motive := fun _ => Bool) (fun _ => false) (fun v t nx =>
  and (asSl v (fun id sz' off' len' _ => and (and (Nat.beq id.n a) (Nat.beq sz' sz)) (and (Nat.beq off' off) (Nat.beq len' (Nat.succ len)))) false)
    (and (Nat.beq nx.n m) (and (asBlk ((bOf a).get t) (fun ro _ _ cs => and (not ro) (inCs cs news off)) false) (List.all others fun x => inO x.2 ((bOf x.1).get t))))) r
noncomputable def insA (T : Nat → TE) (FF : Nat → Option FC) (ng N n f : Nat) (sz off len a : Nat) (cells rest : List V) (others : List (Nat × FO)) (news : List V) (m : Nat) : Bool :=
  preK ((a, .blk false (Nat.add off (Nat.mul len sz)) cells) :: others) .lf fun t => insChkA sz len m others news (callC T FF ng N n f (.sl ⟨a⟩ sz off len (some len) :: rest) t ⟨m⟩)
noncomputable def insB (T : Nat → TE) (FF : Nat → Option FC) (ng N n f : Nat) (sz off len a : Nat) (cells rest : List V) (others : List (Nat × FO)) (news : List V) (m d d' : Nat) : Bool :=
  preK ((a, .blk false (Nat.add d' (Nat.add off (Nat.mul (Nat.succ len) sz))) cells) :: others) .lf fun t => insChkB sz off len a m others news (callC T FF ng N n f (.sl ⟨a⟩ sz off len (some (Nat.add d (Nat.succ len))) :: rest) t ⟨m⟩)
/-- What is asked of the numbers. -/
noncomputable def insN (ng sz len a m : Nat) (others : List (Nat × FO)) (news : List V) : Bool :=
  and (and (Nat.ble ng m) (Nat.blt a m)) (and (and (not (memN a (others.map (·.1)))) (List.all others fun x => Nat.blt x.1 m)) (and (Nat.blt 0 sz) (and (Nat.beq news.length (Nat.mul (Nat.succ len) sz)) (preK others .lf fun t => List.all others fun x => inO x.2 ((bOf x.1).get t)))))

section
variable {P : Program} {T : Nat → TE} {w0 : World} {ng : Nat}
theorem preT_head {a : Nat} {fo : FO} {others : List (Nat × FO)} (h : memN a (others.map (·.1)) = false) : ∀ (t : Tr Obj), (bOf a).get (preT ((a, fo) :: others) t) = some fo.obj ∧ ∀ i : B, i ≠ bOf a → i.get (preT ((a, fo) :: others) t) = i.get (preT others t) := by
  have hn : ∀ fo', (a, fo') ∉ others := fun fo' hm => by
    have : memN a (others.map (·.1)) = true := memN_iff.2 (List.mem_map.2 ⟨_, hm, rfl⟩)
    rw [h] at this; cases this
  have stay : ∀ (l : List (Nat × FO)) (t : Tr Obj) (i : B), (∀ fo', (i.num, fo') ∉ l) → i.get (preT l t) = i.get t := by
    intro l
    induction l with
    | nil => intro t i _; rfl
    | cons x l ih =>
      intro t i hi
      show i.get (preT l ((bOf x.1).put t (some x.2.obj))) = _
      rw [ih _ i (fun fo' hm => hi fo' (List.mem_cons_of_mem _ hm)), B.get_put, if_neg]
      intro e
      exact hi x.2 (by rw [e]; exact List.mem_cons_self)
  have cong : ∀ (l : List (Nat × FO)) (t t' : Tr Obj) (i : B), i.get t = i.get t' → i.get (preT l t) = i.get (preT l t') := by
    intro l
    induction l with
    | nil => intro t t' i h; exact h
    | cons x l ih =>
      intro t t' i h
      refine ih _ _ i ?_
      rw [B.get_put, B.get_put, h]
  intro t
  refine ⟨?_, fun i hi => ?_⟩
  · show (bOf a).get (preT others ((bOf a).put t (some fo.obj))) = _
    rw [stay others _ (bOf a) hn, B.get_put_same]
  · exact cong others _ t i (B.get_put_ne _ _ _ _ hi)

/-- The heap that a fact of this kind starts from. -/
theorem ins_start {g : Gh} {hp : B → Option Obj} {nx : B} {w : World} {a s0 : Nat} {cells : List V} {others : List (Nat × FO)} (hm : memN a (others.map (·.1)) = false) (h1 : HR T w0 ng g hp nx w) (h2 : Sub (preT ((a, .blk false s0 cells) :: others) .lf) hp) {s' : Nat} (hs : s' ≤ (g (bOf a)).n) :
    HR T w0 ng g (updP hp (bOf a) (some (.blk false s' cells.length (putN cells .lf 0)))) nx w ∧ Sub (preT ((a, .blk false s' cells) :: others) .lf) (updP hp (bOf a) (some (.blk false s' cells.length (putN cells .lf 0)))) ∧
    ∀ {g' hp' t' nx' w'}, Step T w0 ng g (updP hp (bOf a) (some (.blk false s' cells.length (putN cells .lf 0)))) (preT ((a, .blk false s' cells) :: others) .lf) nx w g' hp' t' nx' w' → Step T w0 ng g hp (preT ((a, .blk false s0 cells) :: others) .lf) nx w g' hp' t' nx' w' := by
  obtain ⟨a1, a2⟩ := preT_head (fo := .blk false s0 cells) hm .lf
  obtain ⟨b1, b2⟩ := preT_head (fo := .blk false s' cells) hm .lf
  have ha := h2 _ _ a1
  have heq : ∀ i : B, i.get (preT ((a, .blk false s' cells) :: others) .lf) = i.get ((bOf a).put (preT ((a, .blk false s0 cells) :: others) .lf) (some (.blk false s' cells.length (putN cells .lf 0)))) := fun i => by
    rw [B.get_put]
    split
    · rename_i e; subst e; exact b1
    · rename_i e; rw [b2 i e, a2 i e]
  refine ⟨h1.know ha hs, fun i o ho => ?_, fun {g' hp' t' nx' w'} st => Step.from a1 (s' := s') ?_⟩
  · rw [heq, B.get_put] at ho
    unfold updP
    split at ho
    · rename_i e; subst e; rw [if_pos rfl]; exact ho
    · rename_i e; rw [if_neg e]; exact h2 i o ho
  · refine ⟨st.ext, st.le, st.hr, st.sub, fun i hi hn => st.fr i hi (by rw [heq]; exact hn), fun i hi hn => st.dm i hi (by rw [heq]; exact hn), st.sz, st.dr, fun b hb hn => st.un b hb fun i o q1 q2 => hn i o (by rw [← heq]; exact q1) q2, fun i o q1 q2 => ?_, fun i o q1 q2 => ?_⟩
    · rcases st.pl i o q1 q2 with q | ⟨i0, o0, r1, r2, r3⟩
      · exact .inl q
      · exact .inr ⟨i0, o0, by rw [← heq]; exact r1, r2, r3⟩
    · rcases st.pl2 i o q1 q2 with q | ⟨i0, o0, r1, r2⟩
      · exact .inl q
      · exact .inr ⟨i0, o0, by rw [← heq]; exact r1, r2⟩

theorem ins_fact (hT : TOK P T) {FF : Nat → Option FC} (hF : FOKC P T w0 ng FF) {N n f : Nat} (hb : ∃ fn, P.funcs[f]? = some fn ∧ (fn.name == "runtime.NumGoroutine") = false ∧ fn.body.isNone = false) {sz off len a s0 m : Nat} {cells rest news : List V} {others : List (Nat × FO)}
    (hn : insN ng sz len a m others news = true) (hA : insA T FF ng N n f sz off len a cells rest others news m = true) (hB : ∀ d d', insB T FF ng N n f sz off len a cells rest others news m d d' = true) :
    FactT P T w0 ng f (insF sz off len a s0 cells rest others news m) := by
  obtain ⟨n1, n2⟩ := and_ok hn
  obtain ⟨n3, n4⟩ := and_ok n1
  obtain ⟨n5, n6⟩ := and_ok n2
  obtain ⟨n7, n8⟩ := and_ok n5
  obtain ⟨n9, n11⟩ := and_ok n6
  obtain ⟨n10, n12⟩ := and_ok n11
  rw [preK_eq] at n12
  have hng := ble_iff.1 n3
  have ham := blt_iff.1 n4
  have hpos := blt_iff.1 n9
  have hnl : news.length = (len + 1) * sz := beq_iff.1 n10
  have hmem : memN a (others.map (·.1)) = false := by simpa using n7
  have hlow : ∀ x ∈ others, x.1 < m := fun x hx => blt_iff.1 (List.all_eq_true.1 n8 x hx)
  have hne : ∀ x ∈ others, x.1 ≠ a := fun x hx e => by
    have : memN a (others.map (·.1)) = true := memN_iff.2 (List.mem_map.2 ⟨x, hx, e⟩)
    rw [hmem] at this; cases this
  -- the heap at the end
  let t0 := preT ((a, .blk false s0 cells) :: others) .lf
  let tE : Tr Obj := (bOf m).put ((bOf a).put t0 none) (some (FO.blk false (Nat.mul (Nat.succ len) sz) news).obj)
  obtain ⟨a1, a2⟩ := preT_head (fo := .blk false s0 cells) hmem .lf
  have tE_get : ∀ (i : B) o, i.get tE = some o → (i = bOf m ∧ o = (FO.blk false (Nat.mul (Nat.succ len) sz) news).obj) ∨ (i ≠ bOf m ∧ i ≠ bOf a ∧ ∃ x ∈ others, i = bOf x.1 ∧ o = x.2.obj) := fun i o ho => by
    have ho : i.get ((bOf m).put ((bOf a).put t0 none) (some (FO.blk false (Nat.mul (Nat.succ len) sz) news).obj)) = some o := ho
    rw [B.get_put] at ho
    split at ho
    · rename_i e; exact .inl ⟨e, (Option.some.inj ho).symm⟩
    · rename_i e
      rw [B.get_put] at ho
      split at ho
      · cases ho
      · rename_i e2
        have ho : i.get (preT ((a, .blk false s0 cells) :: others) .lf) = some o := ho
        rw [a2 i e2] at ho
        rcases preT_get others .lf i o ho with ⟨fo, h1, h2⟩ | h1
        · exact .inr ⟨e, e2, (i.num, fo), h1, rfl, h2⟩
        · rw [B.get_lf] at h1; cases h1
  refine ⟨hng, Nat.le_succ m, fun x hx => ?_, fun i hi => ?_, fun x hx => ?_, tE, ?_, fun x hx => ?_, fun x hx hxs => ?_⟩
  · rcases List.mem_cons.1 hx with rfl | hx
    · exact .inl List.mem_cons_self
    · exact .inr (List.mem_map.2 ⟨x, hx, rfl⟩)
  · have : i = a := by simpa [insF] using hi
    subst this
    exact ⟨_, List.mem_cons_self⟩
  · have : x = (m, .blk false (Nat.mul (Nat.succ len) sz) news) := by simpa [insF] using hx
    subst this
    exact .inl (Nat.le_refl _)
  · -- the call
    obtain ⟨fn, b1, b2, b3⟩ := hb
    refine ⟨⟨fn, b1, b2, b3⟩, fun g hp w vs h1 h2 h3 => ?_⟩
    obtain ⟨x, vs', rfl, hx, hrest⟩ := RVL.inv (show RVL g m (.sl ⟨a⟩ sz off len none :: rest) vs from h3)
    obtain ⟨ax, c, rfl, q1, q2, q3, q4, q5, q6, q7⟩ := hx.slInv
    have hxc : RV g m (.sl ⟨a⟩ sz off len (some c)) (.slice ax len c) := .sl ⟨a⟩ sz off len (some c) ax c q1 q2 q3 (fun k hk => (Option.some.inj hk)) q5 q6 q7
    have calls : ∀ {args : List V} {tC : Tr Obj} {v : V} {t1 : Tr Obj} {nx1 : B}, callC T FF ng N n f args tC ⟨m⟩ = .ret v t1 nx1 → CallT P T w0 ng f args tC ⟨m⟩ v t1 nx1 := fun h => by
      rcases callC_ok hT hF N n f _ _ _ _ _ _ h with h | ⟨_, _, ⟨fn', r1, r2⟩, _⟩
      · exact h
      · rw [b1] at r1; cases r1; rw [b3] at r2; cases r2
    have hin : ∀ {t1 : Tr Obj}, (List.all others fun x => inO x.2 ((bOf x.1).get t1)) = true → ∀ x ∈ others, ∃ o', (bOf x.1).get t1 = some o' ∧ x.2.In o' := fun h x hx => inO_ok (List.all_eq_true.1 h x hx)
    rcases Nat.lt_or_ge len c with hlt | hge
    · -- there is room
      obtain ⟨d, hd⟩ : ∃ d, c = d + (len + 1) := ⟨c - (len + 1), by omega⟩
      have hmulc : (len + 1) * sz ≤ c * sz := Nat.mul_le_mul_right _ hlt
      obtain ⟨d', hd'⟩ : ∃ d', off + c * sz = d' + (off + (len + 1) * sz) := ⟨off + c * sz - (off + (len + 1) * sz), by omega⟩
      have hB := hB d d'
      unfold insB at hB
      rw [preK_eq] at hB
      obtain ⟨k1, k2, k3⟩ := ins_start (T := T) (w0 := w0) (ng := ng) (cells := cells) hmem h1 h2 (s' := off + c * sz) q6
      have e1 : Nat.add d (Nat.succ len) = c := hd.symm
      have e2 : Nat.add d' (Nat.add off (Nat.mul (Nat.succ len) sz)) = off + c * sz := hd'.symm
      rw [e1, e2] at hB
      generalize hr : callC T FF ng N n f (.sl ⟨a⟩ sz off len (some c) :: rest) (preT ((a, .blk false (off + c * sz) cells) :: others) .lf) ⟨m⟩ = r at hB
      cases r with
      | bad k => cases hB
      | ret v t1 nx1 =>
        obtain ⟨c1, c2⟩ := and_ok hB
        obtain ⟨c3, c4⟩ := and_ok c2
        obtain ⟨c5, c6⟩ := and_ok c4
        obtain ⟨id, sz', off', len', cap', rfl, c7⟩ := asSl_ok c1 (by decide)
        obtain ⟨d1, d2⟩ := and_ok c7
        obtain ⟨d3, d4⟩ := and_ok d1
        obtain ⟨d5, d6⟩ := and_ok d2
        have f1 : id = bOf a := B.num_inj (beq_iff.1 d3)
        have f2 := beq_iff.1 d4
        have f3 := beq_iff.1 d5
        have f4 : len' = len + 1 := beq_iff.1 d6
        have f5 : nx1 = ⟨m⟩ := B.num_inj (beq_iff.1 c3)
        subst f1 f2 f3 f4 f5
        obtain ⟨ro, s1, hi1, cs1, g1, g2⟩ := asBlk_ok c5 (by decide)
        obtain ⟨g3, g4⟩ := and_ok g2
        obtain rfl : ro = false := by simpa using g3
        refine ((calls hr).2 g _ w _ k1 k2 (.cons hxc hrest)).mono ?_
        rintro e w' ⟨g', hp', val, rfl, st, hval⟩
        obtain ⟨g'', hp'', st2, hval2⟩ := move_step st.hr st.sub g1 (cs0 := putN news .lf 0) (fun j v hj => by
          rw [get_putN] at hj
          split at hj
          · rename_i hjl
            rw [Nat.sub_zero] at hj
            exact ⟨by omega, inCs_ok _ _ g4 j v hj⟩
          · rw [B.get_lf] at hj; cases hj) hval
        obtain ⟨hp3, st3⟩ := ((k3 st).trans st2).less (t'' := tE) (fun i o ho => by
          rcases tE_get i o ho with ⟨rfl, rfl⟩ | ⟨j1, j2, x, hx, rfl, rfl⟩
          · refine ⟨_, _, rfl, B.get_put_same ⟨m⟩ _ _, .blk _ _ _ _ _ _ (Nat.le_refl _) fun j v hj => ?_⟩
            rw [get_putN]
            have := (List.getElem?_eq_some_iff.1 hj).1
            rw [if_pos (by omega), Nat.sub_zero]; exact hj
          · obtain ⟨o', r1, r2⟩ := hin c6 x hx
            exact ⟨x.2, o', rfl, (B.get_put_ne ⟨m⟩ _ _ _ j1).trans ((B.get_put_ne _ _ _ _ j2).trans r1), r2⟩)
        exact ⟨g'', hp3, val, rfl, st3, hval2⟩
    · -- there is none
      have hce : c = len := by omega
      subst hce
      unfold insA at hA
      rw [preK_eq] at hA
      obtain ⟨k1, k2, k3⟩ := ins_start (T := T) (w0 := w0) (ng := ng) (cells := cells) hmem h1 h2 (s' := off + c * sz) q6
      have e2 : Nat.add off (Nat.mul c sz) = off + c * sz := rfl
      rw [e2] at hA
      generalize hr : callC T FF ng N n f (.sl ⟨a⟩ sz off c (some c) :: rest) (preT ((a, .blk false (off + c * sz) cells) :: others) .lf) ⟨m⟩ = r at hA
      cases r with
      | bad k => cases hA
      | ret v t1 nx1 =>
        obtain ⟨c1, c2⟩ := and_ok hA
        obtain ⟨c3, c4⟩ := and_ok c2
        obtain ⟨c5, c6⟩ := and_ok c4
        obtain ⟨id, sz', off', len', cap', rfl, c7⟩ := asSl_ok c1 (by decide)
        obtain ⟨d1, d2⟩ := and_ok c7
        obtain ⟨d3, d4⟩ := and_ok d1
        obtain ⟨d5, d6⟩ := and_ok d2
        have f1 : id = bOf m := B.num_inj (beq_iff.1 d3)
        have f2 := beq_iff.1 d4
        have f3 := beq_iff.1 d5
        have f4 : len' = c + 1 := beq_iff.1 d6
        have f5 : nx1 = ⟨m + 1⟩ := B.num_inj (beq_iff.1 c3)
        subst f1 f2 f3 f4 f5
        refine ((calls hr).2 g _ w _ k1 k2 (.cons hxc hrest)).mono ?_
        rintro e w' ⟨g', hp', val, rfl, st, hval⟩
        obtain ⟨onew, r1, r2⟩ := inO_ok c5
        obtain ⟨hp3, st3⟩ := (k3 st).less (t'' := tE) (fun i o ho => by
          rcases tE_get i o ho with ⟨rfl, rfl⟩ | ⟨j1, j2, x, hx, rfl, rfl⟩
          · exact ⟨_, onew, rfl, r1, r2⟩
          · obtain ⟨o', r1, r2⟩ := hin c6 x hx
            exact ⟨x.2, o', rfl, r1, r2⟩)
        refine ⟨g', hp3, val, rfl, st3, ?_⟩
        cases hval with
        | sl _ _ _ _ _ a' c' i1 i2 i3 i4 i5 i6 i7 => exact .sl _ _ _ _ none a' c' i1 i2 i3 (fun k hk => by cases hk) i5 i6 i7
  · have : x = (m, .blk false (Nat.mul (Nat.succ len) sz) news) := by simpa [insF] using hx
    subst this
    refine ⟨_, B.get_put_same _ _ _, .blk _ _ _ _ _ _ (Nat.le_refl _) fun j v hj => ?_⟩
    rw [get_putN]
    have := (List.getElem?_eq_some_iff.1 hj).1
    rw [if_pos (by omega), Nat.sub_zero]; exact hj
  · rcases List.mem_cons.1 hx with rfl | hx
    · have : memN a (others.map (·.1)) = true := memN_iff.2 hxs
      rw [hmem] at this; cases this
    · obtain ⟨o1, r1, r2⟩ := inO_ok (List.all_eq_true.1 n12 x hx)
      have j1 : bOf x.1 ≠ bOf m := fun e => by have := hlow x hx; have := bOf_inj e; omega
      have j2 : bOf x.1 ≠ bOf a := fun e => hne x hx (bOf_inj e)
      refine ⟨o1, ?_, r2⟩
      show (bOf x.1).get ((bOf m).put ((bOf a).put (preT ((a, .blk false s0 cells) :: others) .lf) none) _) = some o1
      rw [B.get_put_ne _ _ _ _ j1, B.get_put_ne _ _ _ _ j2, a2 _ j2]
      exact r1
end

/-! do two slices overlap? -/
noncomputable def plainK (i : B) (t : Tr Obj) (K : FR) : FR := asBlk (i.get t) (fun ro sz _ _ => ite' (and (not ro) (Nat.blt 0 sz)) K (.bad 421)) (.bad 421)
noncomputable def preOv : Pre := fun args t nx _ => a2 args (fun a b => asSl a (fun i _ _ l _ => asSl b (fun j _ _ l' _ => ite' (and (not (Nat.beq i.n j.n)) (and (Nat.blt 0 l) (Nat.blt 0 l'))) (plainK i t (plainK j t (.ret (.bool false) t nx))) (.bad 422)) (.bad 423)) (.bad 423)) (.bad 423)
theorem plainK_ok {i : B} {t : Tr Obj} {K : FR} {r : FR} (h : plainK i t K = r) (hr : ∀ n, FR.bad n ≠ r) : K = r ∧ ∃ sz hi cs, i.get t = some (.blk false sz hi cs) ∧ 0 < sz := by
  obtain ⟨ro, sz, hi, cs, h1, h2⟩ := asBlk_ok h (hr _)
  obtain ⟨h3, h4⟩ := ite'_ok h2 (hr _)
  obtain ⟨h5, h6⟩ := and_ok h3
  obtain rfl : ro = false := by simpa using h5
  exact ⟨h4, sz, hi, cs, h1, blt_iff.1 h6⟩
section
variable {P : Program} {T : Nat → TE} {w0 : World} {ng : Nat}
theorem preOv_ok {f : Nat} {fn : Func} {tS tR e size : Nat} (hf : P.funcs[f]? = some fn) (hname : (fn.name == "runtime.NumGoroutine") = false) (hb : fn.body.isNone = true) (hn : Extern.findNext fn = none) (he : Extern.find fn = some (Extern.SlicesOverlaps.overlaps #[tS, tS] #[tR]))
    (ht : P.underlying tS = some (.slice e)) (hz : ∀ w, (Go.sizeOf e).run P w = .ok size w) : PreOK P T w0 ng f preOv := by
  intro args t nx ex v t' nx' h
  have hbad : ∀ n, FR.bad n ≠ .ret v t' nx' := fun n h => by cases h
  obtain ⟨a, b, rfl, h1⟩ := a2_ok (show a2 args _ _ = _ from h) (hbad _)
  obtain ⟨i, sz, off, l, cap, rfl, h2⟩ := asSl_ok h1 (hbad _)
  obtain ⟨j, sz', off', l', cap', rfl, h3⟩ := asSl_ok h2 (hbad _)
  obtain ⟨h4, h5⟩ := ite'_ok h3 (hbad _)
  obtain ⟨hij, hl⟩ := and_ok h4
  obtain ⟨hl1, hl2⟩ := and_ok hl
  have hl1 := blt_iff.1 hl1
  have hl2 := blt_iff.1 hl2
  obtain ⟨h6, s1, hi1, cs1, hg1, hp1⟩ := plainK_ok h5 hbad
  obtain ⟨h7, s2, hi2, cs2, hg2, hp2⟩ := plainK_ok h6 hbad
  have hne : i ≠ j := fun e => by
    subst e
    have : Nat.beq i.n i.n = true := beq_iff.2 rfl
    rw [this] at hij; cases hij
  cases h7
  refine .inl (.inr ⟨rfl, rfl, ⟨fn, hf, hb⟩, fun g hp w vs g1 g2 g3 => ?_⟩)
  obtain ⟨x, vs1, rfl, hx, g3⟩ := g3.inv
  obtain ⟨y, vs2, rfl, hy, g3⟩ := g3.inv
  have := g3.nil_inv
  subst this
  obtain ⟨ax, c, rfl, q1, q2, q3, q4, q5, q6, q7⟩ := hx.slInv
  obtain ⟨ay, c', rfl, p1, p2, p3, p4, p5, p6, p7⟩ := hy.slInv
  have ex := q7 (by omega)
  have ey := p7 (by omega)
  subst ex ey
  obtain ⟨cur1, T1, fz1, a1, a2, a3, a4, _⟩ := g1.blk g2 hg1
  obtain ⟨cur2, T2, fz2, b1, b2, b3, b4, _⟩ := g1.blk g2 hg2
  have hf1 := a2 rfl
  subst hf1
  refine ⟨.bool false, ?_, .bool _⟩
  rw [run_callFunc_extern hf hname hb hn he]
  have hcall := Lib.run_overlaps_apart (P := P) w tS tR e ht size hz ⟨(g i).b, (g i).o + off, none⟩ ⟨(g j).b, (g j).o + off', none⟩ l c l' c' (g1.sep i j _ _ (g2 i _ hg1) (g2 j _ hg2) hne rfl) T1 T2 cur1.size cur2.size
    (by simp [World.shape?, a1]) (by simp [World.shape?, b1]) (by omega) (by simp [World.frozen?, a1]) (by simp [World.frozen?, a1])
  show ((Extern.SlicesOverlaps.overlaps #[tS, tS] #[tR] #[_, _]).run P w).andThen _ = _
  rw [hcall]
  rfl
end
end Go.Sim
