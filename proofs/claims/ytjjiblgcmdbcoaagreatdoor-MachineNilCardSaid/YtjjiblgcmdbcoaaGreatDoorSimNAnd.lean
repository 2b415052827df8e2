/- Sim: regions whose order is drawn: the check. -/
import Derived.Test.YtjjiblgcmdbcoaaGreatDoorSimJAnd
set_option linter.unusedVariables false
set_option linter.unusedSimpArgs false
namespace Go.Sim
open Go Go.RowKit
open Go.Abs (TE TK SK TOK TFacts)

/-! what must come before what -/
def edM (ms : List Nat) : List Edge → Option Nat
  | [] => some 0
  | e :: es => match Region.binds .any e with
    | true => (match ms[e.on]? with
      | some m => (match edM ms es with | some r => some (m ||| (2 ^ e.on) ||| r) | none => none)
      | none => none)
    | false => edM ms es
def masks : List Oper → List Nat → Option (List Nat)
  | [], ms => some ms
  | o :: os, ms => match edM ms o.after.toList with | some m => masks os (ms ++ [m]) | none => none

theorem edM_spec {ms : List Nat} : ∀ {es : List Edge} {r : Nat}, edM ms es = some r → ∀ i, r.testBit i = true → ∃ e ∈ es, Region.binds .any e = true ∧ e.on < ms.length ∧ (e.on = i ∨ ∃ m, ms[e.on]? = some m ∧ m.testBit i = true)
  | [], r, h, i, hi => by simp [edM] at h; subst h; simp at hi
  | e :: es, r, h, i, hi => by
    unfold edM at h
    split at h
    · rename_i hb
      split at h
      · rename_i m hm
        split at h
        · rename_i r' hr'
          simp at h
          subst h
          rw [Nat.testBit_or, Nat.testBit_or] at hi
          have hlt : e.on < ms.length := (List.getElem?_eq_some_iff.1 hm).1
          simp only [Bool.or_eq_true] at hi
          rcases hi with (hi | hi) | hi
          · exact ⟨e, by simp, hb, hlt, .inr ⟨m, hm, hi⟩⟩
          · rw [Nat.testBit_two_pow] at hi
            exact ⟨e, by simp, hb, hlt, .inl (by simpa using hi)⟩
          · obtain ⟨e', h1, h2⟩ := edM_spec hr' i hi
            exact ⟨e', by simp [h1], h2⟩
        · cases h
      · cases h
    · obtain ⟨e', h1, h2⟩ := edM_spec h i hi
      exact ⟨e', by simp [h1], h2⟩

theorem masks_spec : ∀ {os : List Oper} {ms r : List Nat}, masks os ms = some r → r.length = ms.length + os.length ∧ (∀ j, j < ms.length → r[j]? = ms[j]?) ∧
    ∀ j o, os[j]? = some o → ∃ m, r[ms.length + j]? = some m ∧ ∀ i, m.testBit i = true → ∃ e ∈ o.after, Region.binds .any e = true ∧ e.on < ms.length + j ∧ (e.on = i ∨ ∃ m', r[e.on]? = some m' ∧ m'.testBit i = true)
  | [], ms, r, h => by simp [masks] at h; subst h; exact ⟨by simp, fun _ _ => rfl, fun j o ho => by simp at ho⟩
  | o :: os, ms, r, h => by
    unfold masks at h
    split at h
    · rename_i m hm
      obtain ⟨h1, h2, h3⟩ := masks_spec h
      simp only [List.length_append, List.length_cons, List.length_nil] at h1 h2 h3
      have hold : ∀ j, j < ms.length → r[j]? = ms[j]? := fun j hj => by rw [h2 j (by omega), List.getElem?_append_left hj]
      refine ⟨by simp; omega, hold, fun j o' ho' => ?_⟩
      cases j with
      | zero =>
        simp at ho'
        subst ho'
        refine ⟨m, by rw [Nat.add_zero, h2 _ (by omega)]; simp, fun i hi => ?_⟩
        obtain ⟨e, e1, e2, e3, e4⟩ := edM_spec hm i hi
        exact ⟨e, by simpa using e1, e2, by omega, e4.imp id fun ⟨m', f1, f2⟩ => ⟨m', by rw [hold _ e3]; exact f1, f2⟩⟩
      | succ j =>
        obtain ⟨m', e1, e2⟩ := h3 j o' (by simpa using ho')
        exact ⟨m', by rw [show ms.length + (j + 1) = ms.length + (0 + 1) + j by omega]; exact e1, fun i hi => by
          obtain ⟨e, f1, f2, f3, f4⟩ := e2 i hi
          exact ⟨e, f1, f2, by omega, f4⟩⟩
    · cases h

/-- What binds stands ahead in the text. -/
theorem edM_on : ∀ (es : List Edge) (l : List Nat) (r : Nat), edM l es = some r → ∀ e ∈ es, Region.binds .any e = true → e.on < l.length := by
  intro es
  induction es with
  | nil => intro l r _ e he; cases he
  | cons z es ih =>
    intro l r hr e he hb
    unfold edM at hr
    split at hr
    · split at hr
      · rename_i m hm
        split at hr
        · rename_i r' hr'
          rcases List.mem_cons.1 he with rfl | he
          · exact (List.getElem?_eq_some_iff.1 hm).1
          · exact ih l r' hr' e he hb
        · cases hr
      · cases hr
    · rename_i hnb
      rcases List.mem_cons.1 he with rfl | he
      · exact absurd hb (by rw [hnb]; simp)
      · exact ih l r hr e he hb
theorem masks_on : ∀ (os : List Oper) (l r : List Nat), masks os l = some r → ∀ (j : Nat) o, os[j]? = some o → ∀ e ∈ o.after, Region.binds .any e = true → e.on < l.length + j := by
  intro os
  induction os with
  | nil => intro l r _ j o ho; simp at ho
  | cons z os ih =>
    intro l r hr j o ho e he hb
    unfold masks at hr
    split at hr
    · rename_i m hm
      cases j with
      | zero => simp at ho; subst ho; exact edM_on _ _ _ hm e (by simpa using he) hb
      | succ j => have := ih _ _ hr j o (by simpa using ho) e he hb; simp at this; omega
    · cases hr

/-- The masks bear what binds. -/
def MaskOK (ops : List Oper) (ms : List Nat) : Prop := ∃ rk : Nat → Nat, ms.length = ops.length ∧ ∀ j o, ops[j]? = some o → (∀ e ∈ o.after, Region.binds .any e = true → rk e.on < rk j ∧ e.on < ops.length) ∧
  ∃ m, ms[j]? = some m ∧ ∀ i, m.testBit i = true → ∃ e ∈ o.after, Region.binds .any e = true ∧ (e.on = i ∨ ∃ m', ms[e.on]? = some m' ∧ m'.testBit i = true)
theorem masks_ok {ops : List Oper} {ms : List Nat} (h : masks ops [] = some ms) : MaskOK ops ms := by
  obtain ⟨h1, _, h3⟩ := masks_spec h
  simp only [List.length_nil, Nat.zero_add] at h1 h3
  refine ⟨id, h1, fun j o ho => ⟨fun e he hb => ?_, ?_⟩⟩
  · have := masks_on ops [] ms h j o ho e he hb
    simp only [List.length_nil, Nat.zero_add] at this
    exact ⟨this, Nat.lt_trans this (List.getElem?_eq_some_iff.1 ho).1⟩
  · obtain ⟨m, e1, e2⟩ := h3 j o ho
    exact ⟨m, e1, fun i hi => by obtain ⟨e, f1, f2, _, f4⟩ := e2 i hi; exact ⟨e, f1, f2, f4⟩⟩

/-! in another order than the text's -/
def lkM : List (Nat × Nat) → Nat → Option Nat
  | [], _ => none
  | x :: l, k => match Nat.beq x.1 k with | true => some x.2 | false => lkM l k
def edP (acc : List (Nat × Nat)) : List Edge → Option Nat
  | [] => some 0
  | e :: es => match Region.binds .any e with
    | true => (match lkM acc e.on with
      | some m => (match edP acc es with | some r => some (m ||| (2 ^ e.on) ||| r) | none => none)
      | none => none)
    | false => edP acc es
def masksP (ops : List Oper) : List Nat → List (Nat × Nat) → Option (List (Nat × Nat))
  | [], acc => some acc
  | k :: ks, acc => match lkM acc k, ops[k]? with
    | none, some o => (match edP acc o.after.toList with | some m => masksP ops ks ((k, m) :: acc) | none => none)
    | _, _ => none
def listP (acc : List (Nat × Nat)) : List Nat → Option (List Nat)
  | [] => some []
  | k :: ks => match lkM acc k, listP acc ks with
    | some m, some r => some (m :: r)
    | _, _ => none
def masksQ (ops : List Oper) (ks : List Nat) : Option (List Nat) := match masksP ops ks [] with | some acc => listP acc (List.range ops.length) | none => none
def masksA (ops : List Oper) (ks : List Nat) : Option (List Nat) := match masks ops [] with | some ms => some ms | none => masksQ ops ks
def posM : List (Nat × Nat) → Nat → Nat
  | [], _ => 0
  | x :: l, k => if x.1 = k then l.length + 1 else posM l k
theorem posM_le : ∀ (l : List (Nat × Nat)) (k : Nat), posM l k ≤ l.length
  | [], _ => Nat.le_refl _
  | x :: l, k => by unfold posM; split; simp; have := posM_le l k; simp; omega
theorem lkM_cons (x : Nat × Nat) (l : List (Nat × Nat)) (k : Nat) : lkM (x :: l) k = if x.1 = k then some x.2 else lkM l k := by
  show (match Nat.beq x.1 k with | true => some x.2 | false => lkM l k) = _
  split
  · rename_i h; rw [if_pos (Nat.eq_of_beq_eq_true h)]
  · rename_i h; rw [if_neg (fun e => by rw [e, Nat.beq_refl] at h; cases h)]
theorem edP_spec {acc : List (Nat × Nat)} : ∀ {es : List Edge} {r : Nat}, edP acc es = some r → (∀ e ∈ es, Region.binds .any e = true → ∃ m, lkM acc e.on = some m) ∧ ∀ i, r.testBit i = true → ∃ e ∈ es, Region.binds .any e = true ∧ (e.on = i ∨ ∃ m, lkM acc e.on = some m ∧ m.testBit i = true)
  | [], r, h => by simp [edP] at h; subst h; exact ⟨fun e he => (by cases he), fun i hi => by simp at hi⟩
  | e :: es, r, h => by
    unfold edP at h
    split at h
    · rename_i hb
      split at h
      · rename_i m hm
        split at h
        · rename_i r' hr'
          simp at h
          subst h
          obtain ⟨g1, g2⟩ := edP_spec hr'
          refine ⟨fun e' he' hb' => ?_, fun i hi => ?_⟩
          · rcases List.mem_cons.1 he' with rfl | he'
            · exact ⟨m, hm⟩
            · exact g1 e' he' hb'
          · rw [Nat.testBit_or, Nat.testBit_or] at hi
            simp only [Bool.or_eq_true] at hi
            rcases hi with (hi | hi) | hi
            · exact ⟨e, by simp, hb, .inr ⟨m, hm, hi⟩⟩
            · rw [Nat.testBit_two_pow] at hi
              exact ⟨e, by simp, hb, .inl (by simpa using hi)⟩
            · obtain ⟨e', h1, h2⟩ := g2 i hi
              exact ⟨e', by simp [h1], h2⟩
        · cases h
      · cases h
    · rename_i hnb
      obtain ⟨g1, g2⟩ := edP_spec h
      refine ⟨fun e' he' hb' => ?_, fun i hi => ?_⟩
      · rcases List.mem_cons.1 he' with rfl | he'
        · exact absurd hb' (by rw [hnb]; simp)
        · exact g1 e' he' hb'
      · obtain ⟨e', h1, h2⟩ := g2 i hi
        exact ⟨e', by simp [h1], h2⟩
def AccOK (ops : List Oper) (acc : List (Nat × Nat)) : Prop := ∀ k m, lkM acc k = some m → ∃ o, ops[k]? = some o ∧ (∀ e ∈ o.after, Region.binds .any e = true → posM acc e.on < posM acc k ∧ ∃ m', lkM acc e.on = some m') ∧
  ∀ i, m.testBit i = true → ∃ e ∈ o.after, Region.binds .any e = true ∧ (e.on = i ∨ ∃ m', lkM acc e.on = some m' ∧ m'.testBit i = true)
theorem masksP_ok {ops : List Oper} : ∀ {ks : List Nat} {acc r : List (Nat × Nat)}, masksP ops ks acc = some r → AccOK ops acc → AccOK ops r
  | [], acc, r, h, ha => by simp [masksP] at h; subst h; exact ha
  | k :: ks, acc, r, h, ha => by
    unfold masksP at h
    split at h
    case h_2 => cases h
    rename_i o hn ho
    split at h
    case h_2 => cases h
    rename_i m hm
    refine masksP_ok h fun k' m' hk' => ?_
    obtain ⟨g1, g2⟩ := edP_spec hm
    have hne : ∀ j m1, lkM acc j = some m1 → k ≠ j := fun j m1 hj e => by subst e; rw [hn] at hj; cases hj
    have hpos : ∀ j m1, lkM acc j = some m1 → posM ((k, m) :: acc) j = posM acc j ∧ lkM ((k, m) :: acc) j = some m1 := fun j m1 hj => by
      refine ⟨?_, ?_⟩
      · show (if k = j then _ else _) = _; rw [if_neg (hne j m1 hj)]
      · rw [lkM_cons]; show (if k = j then _ else _) = _; rw [if_neg (hne j m1 hj), hj]
    rw [lkM_cons] at hk'
    simp only at hk'
    split at hk'
    · rename_i e
      subst e
      cases hk'
      refine ⟨o, ho, fun e he hb => ?_, fun i hi => ?_⟩
      · obtain ⟨m1, hm1⟩ := g1 e (by simpa using he) hb
        obtain ⟨q1, q2⟩ := hpos _ _ hm1
        refine ⟨?_, m1, q2⟩
        rw [q1]
        show _ < (if k = k then _ else _)
        rw [if_pos rfl]
        have := posM_le acc e.on
        omega
      · obtain ⟨e, h1, h2, h3⟩ := g2 i hi
        refine ⟨e, by simpa using h1, h2, h3.imp id fun ⟨m1, f1, f2⟩ => ⟨m1, (hpos _ _ f1).2, f2⟩⟩
    · rename_i e
      obtain ⟨o', f1, f2, f3⟩ := ha k' m' hk'
      refine ⟨o', f1, fun e he hb => ?_, fun i hi => ?_⟩
      · obtain ⟨q1, m1, q2⟩ := f2 e he hb
        rw [(hpos _ _ q2).1, (hpos _ _ hk').1]
        exact ⟨q1, m1, (hpos _ _ q2).2⟩
      · obtain ⟨e, h1, h2, h3⟩ := f3 i hi
        exact ⟨e, h1, h2, h3.imp id fun ⟨m1, q1, q2⟩ => ⟨m1, (hpos _ _ q1).2, q2⟩⟩
theorem listP_spec {acc : List (Nat × Nat)} : ∀ {ks r : List Nat}, listP acc ks = some r → r.length = ks.length ∧ ∀ (j k : Nat), ks[j]? = some k → ∃ m, r[j]? = some m ∧ lkM acc k = some m
  | [], r, h => by simp [listP] at h; subst h; exact ⟨rfl, fun j k hj => by simp at hj⟩
  | k :: ks, r, h => by
    unfold listP at h
    split at h
    case h_2 => cases h
    rename_i m r' hm hr'
    simp at h
    subst h
    obtain ⟨h1, h2⟩ := listP_spec hr'
    refine ⟨by simp [h1], fun j k' hj => ?_⟩
    cases j with
    | zero => simp at hj; subst hj; exact ⟨m, rfl, hm⟩
    | succ j => exact h2 j k' (by simpa using hj)
theorem masksA_ok {ops : List Oper} {ks ms : List Nat} (h : masksA ops ks = some ms) : MaskOK ops ms := by
  unfold masksA at h
  split at h
  · rename_i ms' hm; cases h; exact masks_ok hm
  · unfold masksQ at h
    split at h
    case h_2 => cases h
    rename_i acc hacc
    have ha := masksP_ok hacc (fun k m hk => by simp [lkM] at hk)
    obtain ⟨h1, h2⟩ := listP_spec h
    have hin : ∀ k, k < ops.length → ∃ m, ms[k]? = some m ∧ lkM acc k = some m := fun k hk => h2 k k (by simp [List.getElem?_range, hk])
    refine ⟨posM acc, by simpa using h1, fun j o ho => ?_⟩
    have hj := (List.getElem?_eq_some_iff.1 ho).1
    obtain ⟨m, e1, e2⟩ := hin j hj
    obtain ⟨o', f1, f2, f3⟩ := ha j m e2
    rw [ho] at f1
    cases f1
    have hlt : ∀ k m, lkM acc k = some m → k < ops.length := fun k m hk => by obtain ⟨o'', g1, _⟩ := ha k m hk; exact (List.getElem?_eq_some_iff.1 g1).1
    refine ⟨fun e he hb => ?_, m, e1, fun i hi => ?_⟩
    · obtain ⟨q1, m1, q2⟩ := f2 e he hb
      exact ⟨q1, hlt _ _ q2⟩
    · obtain ⟨e, q1, q2, q3⟩ := f3 i hi
      refine ⟨e, q1, q2, q3.imp id fun ⟨m1, r1, r2⟩ => ?_⟩
      obtain ⟨m2, s1, s2⟩ := hin _ (hlt _ _ r1)
      rw [r1] at s2
      cases s2
      exact ⟨m1, s1, r2⟩

/-- Whoever is in it, what binds him is. -/
def Closed (ops : List Oper) (L : Nat → Prop) : Prop := ∀ j o, L j → ops[j]? = some o → ∀ e ∈ o.after, Region.binds .any e = true → L e.on
theorem masks_pre {ops : List Oper} {ms : List Nat} (h : MaskOK ops ms) {L : Nat → Prop} (hL : Closed ops L) {j m : Nat} {o : Oper} (ho : ops[j]? = some o) (hm : ms[j]? = some m) (hp : ∀ e ∈ o.after, Region.binds .any e = true → L e.on) : ∀ i, m.testBit i = true → L i := by
  obtain ⟨rk, h1, h3⟩ := h
  have key : ∀ n j, rk j < n → L j → ∀ m, ms[j]? = some m → ∀ i, m.testBit i = true → L i := by
    intro n
    induction n with
    | zero => intro j hj; omega
    | succ n ih =>
      intro j hj hLj m hm i hi
      have hjo : j < ops.length := by rw [← h1]; exact (List.getElem?_eq_some_iff.1 hm).1
      obtain ⟨f0, m', e1, e2⟩ := h3 j _ (List.getElem?_eq_getElem hjo)
      rw [hm] at e1
      cases e1
      obtain ⟨e, f1, f2, f4⟩ := e2 i hi
      have hLe := hL j _ hLj (List.getElem?_eq_getElem hjo) e f1 f2
      have f3 := (f0 e f1 f2).1
      rcases f4 with rfl | ⟨m'', g1, g2⟩
      · exact hLe
      · exact ih e.on (by omega) hLe m'' g1 i g2
  intro i hi
  obtain ⟨_, m', e1, e2⟩ := h3 j o ho
  rw [hm] at e1
  cases e1
  obtain ⟨e, f1, f2, f4⟩ := e2 i hi
  have hLe := hp e f1 f2
  rcases f4 with rfl | ⟨m'', g1, g2⟩
  · exact hLe
  · exact key (rk e.on + 1) e.on (by omega) hLe m'' g1 i g2

/-! the check -/
def tmpsOf : List Operand → List Nat
  | [] => []
  | .tmp t :: xs => t :: tmpsOf xs
  | _ :: xs => tmpsOf xs
theorem mem_tmpsOf {t : Nat} : ∀ {xs : List Operand}, Operand.tmp t ∈ xs → t ∈ tmpsOf xs
  | x :: xs, h => by
    rcases List.mem_cons.1 h with rfl | h
    · simp [tmpsOf]
    · have := mem_tmpsOf h
      cases x <;> simp [tmpsOf, this]
def gdst (all : List Oper) (o : Oper) : List Nat := match o.guard with
  | some (j, _) => (match all[j]? with | some oj => (match oj.dst with | some d => [d] | none => []) | none => [])
  | none => []
def looksF (all : List Oper) (o : Oper) : List Nat := tmpsOf (opnds o.op) ++ gdst all o
def memN (x : Nat) : List Nat → Bool
  | [] => false
  | y :: l => match Nat.beq x y with | true => true | false => memN x l
theorem memN_iff {x : Nat} : ∀ {l : List Nat}, memN x l = true ↔ x ∈ l
  | [] => by simp [memN]
  | y :: l => by
    unfold memN
    split
    · rename_i h; simp [Nat.eq_of_beq_eq_true h]
    · rename_i h
      have hne : x ≠ y := fun e => by rw [e, Nat.beq_refl] at h; cases h
      rw [memN_iff]; simp [hne]

/-- An operation of the region, as the check sees it. -/
structure Rec where
  k : Nat
  cl : Nat
  back : Nat
  o : Oper
  looks : List Nat
  mask : Nat
def inMask (k : Nat) (y : Rec) : Bool := y.mask.testBit k
def isLz : Op → Bool
  | .alloc _ => true
  | .makeMap _ none => true
  | .buildSlice _ _ _ => true
  | _ => false
def recs (all : List Oper) (ms : List Nat) : List DI → Option (List Rec)
  | [] => some []
  | it :: its => match all[it.k]?, ms[it.k]?, recs all ms its with
    | some o, some m, some r => some (⟨it.k, it.cl, it.back, o, looksF all o, m⟩ :: r)
    | _, _, _ => none
def hitB (d : Option Nat) (l : List Nat) : Bool := match d with | some d => memN d l | none => false
def sameB (d d' : Option Nat) : Bool := match d, d' with | some d, some d' => Nat.beq d d' | _, _ => false
/-- x stands before y. -/
def pairOk (x y : Rec) : Bool :=
  (!(Nat.beq x.k y.k)) && ((inMask x.k y) || (!(hitB x.o.dst y.looks) && !(sameB x.o.dst y.o.dst) && !(hitB y.o.dst x.looks))) && ((!(Nat.beq y.cl 2)) || inMask x.k y) && ((!(Nat.beq x.cl 1) && !(Nat.beq y.cl 1)) || !(sameB x.o.dst y.o.dst))
def allP (R : Rec → Rec → Bool) : List Rec → Bool
  | [] => true
  | x :: r => r.all (R x) && allP R r
/-- Who looks at what a lazy one leaves. -/
def zOk (d : Nat) : Option Nat → List Rec → Bool
  | _, [] => true
  | none, y :: r => if Nat.beq y.cl 2 then zOk d (some y.k) r else !(memN d y.looks) && zOk d none r
  | some w, y :: r => (!(memN d y.looks) || inMask w y) && zOk d (some w) r
def oneOk (x : Rec) (rest : List Rec) : Bool := match x.cl with
  | 0 => isQ x.o.op
  | 1 => isLz x.o.op && x.o.guard.isNone && (match x.o.dst with | some d => zOk d none rest && !(memN d x.looks) | none => false)
  | _ => true
def onesOk : List Rec → Bool
  | [] => true
  | x :: r => oneOk x r && onesOk r
/-- How far back a quiet one may be carried out: 'ch' are the chain's operations so far, the last first. -/
def backOk : List Nat → List Rec → Bool
  | _, [] => true
  | ch, x :: r => (match x.cl with
    | 0 => (match ch[x.back]? with | some k => inMask k x | none => Nat.beq x.back ch.length)
    | _ => true) && backOk (match x.cl with | 2 => x.k :: ch | _ => ch) r
/-- Every operation of the region has its place. -/
def coverOk (n : Nat) (rs : List Rec) : Bool := (List.range n).all fun k => rs.any fun r => Nat.beq r.k k
def drawOk (ops : List Oper) (its : List DI) : Bool := match masksA ops (its.map DI.k) with
  | some ms => (match recs ops ms its with
    | some rs => allP pairOk rs && onesOk rs && backOk [] rs && coverOk ops.length rs
    | none => false)
  | none => false

theorem allP_spec {R : Rec → Rec → Bool} : ∀ {l : List Rec}, allP R l = true → ∀ (i j : Nat) x y, i < j → l[i]? = some x → l[j]? = some y → R x y = true
  | [], _, i, j, x, y, _, h, _ => by simp at h
  | z :: l, h, i, j, x, y, hij, hx, hy => by
    simp only [allP, Bool.and_eq_true] at h
    cases j with
    | zero => omega
    | succ j =>
      simp at hy
      cases i with
      | zero => simp at hx; subst hx; exact List.all_eq_true.1 h.1 y (List.mem_of_getElem? hy)
      | succ i => simp at hx; exact allP_spec h.2 i j x y (by omega) hx hy
end Go.Sim

/- Sim: regions whose order is drawn: what the run in the canonical order shows. -/
namespace Go.Sim
open Go Go.RowKit
open Go.Abs (TE TK SK TOK TFacts patch size_patch patch_in patch_out)

theorem numB_eq (b : B) : numB b = b.num := rfl
theorem eqB {a b : B} (h : Nat.beq (numB a) (numB b) = true) : a = b := by
  have := beq_iff.1 h
  rw [numB_eq, numB_eq] at this
  exact B.num_inj this
theorem eqI_iff {a b : Int} (h : eqI a b = true) : a = b := by
  cases a <;> cases b <;> simp [eqI] at h <;> first | (rw [h]) | cases h
theorem eqO_iff {a b : Option Nat} (h : eqO a b = true) : a = b := by
  cases a <;> cases b <;> first | rfl | cases h | (rw [beq_iff.1 h])
theorem eqW1_spec {a b : V} (h : eqW1 a b = true) : a = b := by
  unfold eqW1 at h
  split at h <;> first | rfl | skip
  · rw [eqBo_iff.1 h]
  · obtain ⟨h1, h2⟩ := and_ok h; rw [ikN_inj h1, eqI_iff h2]
  · obtain ⟨h1, h2⟩ := and_ok h; rw [beq_iff.1 h1, beq_iff.1 h2]
  · obtain ⟨h1, h2⟩ := and_ok h; rw [eqB h1, beq_iff.1 h2]
  · obtain ⟨h1, h2⟩ := and_ok h
    obtain ⟨h3, h4⟩ := and_ok h1
    obtain ⟨h5, h6⟩ := and_ok h2
    obtain ⟨h7, h8⟩ := and_ok h6
    rw [eqB h3, beq_iff.1 h4, beq_iff.1 h5, beq_iff.1 h7, eqO_iff h8]
  · rw [eqB h]
  · rw [beq_iff.1 h]
  · cases h
theorem eqWs_spec : ∀ {a b : List V}, eqWs a b = true → a = b
  | [], [], _ => rfl
  | [], _ :: _, h => by cases h
  | _ :: _, [], h => by cases h
  | x :: a, y :: b, h => by
    obtain ⟨h1, h2⟩ := and_ok (show and (eqW1 x y) (eqWs a b) = true from h)
    rw [eqW1_spec h1, eqWs_spec h2]
theorem eqW_spec {a b : V} (h : eqW a b = true) : a = b := by
  cases a with
  | agg xs => cases b <;> first | (rw [eqWs_spec (show eqWs xs _ = true from h)]) | exact absurd h (by simp [eqW, asAgg])
  | tup xs => cases b <;> first | (rw [eqWs_spec (show eqWs xs _ = true from h)]) | exact absurd h (by simp [eqW, asAgg, asTup])
  | fn f xs ys =>
    cases b with
    | fn f' xs' ys' =>
      obtain ⟨h1, h2⟩ := and_ok (show and (Nat.beq f f') (and (eqWs xs xs') (eqWs ys ys')) = true from h)
      obtain ⟨h3, h4⟩ := and_ok h2
      rw [beq_iff.1 h1, eqWs_spec h3, eqWs_spec h4]
    | _ => exact absurd (show false = true from h) (by decide)
  | _ => exact eqW1_spec h

section
variable {P : Program} {T : Nat → TE} {w0 : World} {ng : Nat}

/-- A handler asked at the earlier heaps too. -/
theorem atAll_ok {o : Oper} {h : H} (hq : HQ P T w0 ng o h) {call : Cl} (hc : CallOK P T w0 ng call) {back : Nat} {hs : List (Tr Obj × B)} {vals : List V} {t : Tr Obj} {nx : B} {K : KV} {r : R} (hr : ∀ n, R.bad n ≠ r) (hh : atAll back hs h T call vals t nx K = r) :
    ∃ v, K v t nx = r ∧ ∀ i, i ≤ back → ∃ x : Tr Obj × B, hs[i]? = some x ∧ QT P T w0 ng o vals x.1 x.2 v := by
  cases hs with
  | nil => exact absurd hh (hr _)
  | cons h0 hs =>
    obtain ⟨v, k1, k2⟩ := hq call hc vals h0.1 h0.2 _ r hr hh
    have key : ∀ (n : Nat) (hs : List (Tr Obj × B)) (e : R), backK n hs (fun t' nx' e => h T call vals t' nx' fun v' _ _ => ite' (eqW v v') e (.bad 131)) e = r → e = r ∧ ∀ i, i < n → ∃ x : Tr Obj × B, hs[i]? = some x ∧ QT P T w0 ng o vals x.1 x.2 v := by
      intro n
      induction n with
      | zero => intro hs e he; exact ⟨he, fun i hi => by omega⟩
      | succ n ih =>
        intro hs e he
        cases hs with
        | nil => exact absurd he (hr _)
        | cons x hs =>
          obtain ⟨v', q1, q2⟩ := hq call hc vals x.1 x.2 _ r hr he
          obtain ⟨q3, q4⟩ := ite'_ok q1 (hr _)
          have := eqW_spec q3
          subst this
          obtain ⟨q5, q6⟩ := ih hs e q4
          refine ⟨q5, fun i hi => ?_⟩
          cases i with
          | zero => exact ⟨x, rfl, q2⟩
          | succ i => obtain ⟨y, y1, y2⟩ := q6 i (by omega); exact ⟨y, by simpa using y1, y2⟩
    obtain ⟨q5, q6⟩ := key back hs _ k1
    refine ⟨v, q5, fun i hi => ?_⟩
    cases i with
    | zero => exact ⟨h0, rfl, k2⟩
    | succ i => obtain ⟨y, y1, y2⟩ := q6 i (by omega); exact ⟨y, by simpa using y1, y2⟩

/-- What comes of an operation that only makes a block, whenever the block is told of. -/
structure Reg (T : Nat → TE) (w0 : World) (ng : Nat) (b : Nat) (g : Gh) (hp : B → Option Obj) (t : Tr Obj) (nx : B) (w : World) (g' : Gh) (hp' : B → Option Obj) (t' : Tr Obj) (nx' : B) : Prop where
  ext : Ext g g' nx.num
  le : nx.num ≤ nx'.num
  hr : HR T w0 ng g' hp' nx' w
  sub : Sub t' hp'
  fr : Fr t nx hp hp'
  dm : Dm t nx t'
  pl : ∀ id o, B.get id t' = some o → (B.get id t = some o ∧ g' id = g id) ∨ (g' id).b = b
  pl2 : ∀ id o, hp' id = some o → (hp id = some o ∧ g' id = g id) ∨ (nx.num ≤ id.num ∧ (g' id).b = b)
def LazyT (P : Program) (T : Nat → TE) (w0 : World) (ng : Nat) (o : Oper) (vals : List V) (t : Tr Obj) (nx : B) (x : V) (t' : Tr Obj) (nx' : B) : Prop :=
  ∀ (g : Gh) (n : Nat) (ρ : Operand → Value) (w : World), RVL g n vals (o.op.operands.toList.map ρ) → ∃ u ob, (execOp ρ o).run P w = .ok (.value u) (w.alloc ob) ∧
    ∀ g1 hp1 w1, HR T w0 ng g1 hp1 nx w1 → Sub t hp1 → Ext g g1 n → n ≤ nx.num → w1.heap[w.heap.size]? = some ob → w0.heap.size ≤ w.heap.size → (∀ id o, hp1 id = some o → (g1 id).b ≠ w.heap.size) →
      ∃ g' hp', Reg T w0 ng w.heap.size g1 hp1 t nx w1 g' hp' t' nx' ∧ RV g' nx'.num x u

theorem Like.refl {ng : Nat} (w : World) : Like ng w w := ⟨rfl, rfl, rfl, Nat.le_refl _, fun _ => Nat.le_refl _⟩
theorem Reg.new {g : Gh} {hp : B → Option Obj} {t : Tr Obj} {nx : B} {w : World} (h : HR T w0 ng g hp nx w) (hs : Sub t hp) {b n : Nat} (hb : w0.heap.size ≤ b) (hfree : ∀ id o, hp id = some o → (g id).b ≠ b) {o : Obj} (hobj : ObjR T (updG g nx ⟨b, 0, n⟩) nx.inc.num w nx o) :
    Reg T w0 ng b g hp t nx w (updG g nx ⟨b, 0, n⟩) (updP hp nx (some o)) (nx.put t (some o)) nx.inc := by
  have hnx := B.num_inc nx
  refine ⟨ext_upd (Nat.le_refl _), by omega, h.add (Like.refl w) (fun _ _ _ => rfl) hb hfree hobj h.ngx, sub_add hs _ _, fun id hi hn => ?_, fun id hi hn => ?_, fun id o' h1 => ?_, fun id o' h1 => ?_⟩
  · unfold updP
    rw [if_neg (fun e => by rw [e] at hi; omega)]
  · rw [B.get_put, if_neg (fun e => by rw [e] at hi; omega)]; exact hn
  · rw [B.get_put] at h1
    unfold updG
    split at h1
    · rename_i e; rw [if_pos e]; exact .inr rfl
    · rename_i e; rw [if_neg e]; exact .inl ⟨h1, rfl⟩
  · unfold updP at h1
    unfold updG
    split at h1
    · rename_i e; rw [if_pos e]; exact .inr ⟨by rw [e]; exact Nat.le_refl _, rfl⟩
    · rename_i e; rw [if_neg e]; exact .inl ⟨h1, rfl⟩
theorem Reg.refl {g : Gh} {hp : B → Option Obj} {t : Tr Obj} {nx : B} {w : World} (h : HR T w0 ng g hp nx w) (hs : Sub t hp) (b : Nat) : Reg T w0 ng b g hp t nx w g hp t nx :=
  ⟨.refl _ _, Nat.le_refl _, h, hs, fun _ _ _ => rfl, fun _ _ h => h, fun _ _ h => .inl ⟨h, rfl⟩, fun _ _ h => .inl ⟨h, rfl⟩⟩

/-- A row of cells told of. -/
theorem reg_row {g : Gh} {hp : B → Option Obj} {t : Tr Obj} {nx : B} {w : World} (h : HR T w0 ng g hp nx w) (hs : Sub t hp) {b : Nat} (hb : w0.heap.size ≤ b) (hfree : ∀ id o, hp id = some o → (g id).b ≠ b) {cur : Array Value} {Tb : TypeId}
    (hw : w.heap[b]? = some (.cells cur Tb (0, 0))) {cs : Tr V} {m : Nat} (hc : CR g nx.num cs cur) (hm : m ≤ cur.size) (hlt : ∀ j v, (bOf j).get cs = some v → j < m) :
    Reg T w0 ng b g hp t nx w (updG g nx ⟨b, 0, cur.size⟩) (updP hp nx (some (.blk false m m cs))) (nx.put t (some (.blk false m m cs))) nx.inc := by
  have hext : Ext g (updG g nx ⟨b, 0, cur.size⟩) nx.num := ext_upd (Nat.le_refl _)
  have hgn : updG g nx ⟨b, 0, cur.size⟩ nx = ⟨b, 0, cur.size⟩ := by simp [updG]
  refine .new h hs hb hfree ⟨cur, Tb, (0, 0), by rw [hgn]; exact hw, fun _ => rfl, by rw [hgn]; simp, by rw [hgn]; exact hm, fun j v hv => ?_⟩
  obtain ⟨u, h1, h2, h3⟩ := hc j v hv
  exact ⟨hlt j v hv, u, by rw [hgn]; simpa using h1, h2.mono hext (by rw [B.num_inc]; omega), h3⟩

theorem hAlloc_lz (hT : TOK P T) {o : Oper} {ty : Nat} (ho : o.op = .alloc ty) {call : Cl} {vals : List V} {t : Tr Obj} {nx : B} {K : KV} {r : R} (hr : ∀ n, R.bad n ≠ r) (h : hAlloc ty T call vals t nx K = r) :
    ∃ v t' nx', K v t' nx' = r ∧ LazyT P T w0 ng o vals t nx v t' nx' := by
  obtain ⟨hkn, k1⟩ := ite'_ok h (hr _)
  obtain ⟨h1, k2⟩ := mkVar_ok hr k1
  obtain ⟨d, i, hf⟩ := hT.facts (Abs.TE.known_spec hkn)
  refine ⟨_, _, _, k2, fun g n ρ w _ => ⟨_, .cells (T ty).zero.cells ty, by simp [execOp, ho, Instr.alloc, zeroValue, typeInfo, hf.info, hf.zero, newVar, Go.newRow]; rfl, fun g1 hp1 w1 e1 e2 e3 e4 e5 e6 e7 => ?_⟩⟩
  have hv := rv_cV g1 nx.num (T ty).zero
  obtain ⟨q1, q2⟩ := hv.cells h1
  have hc : CR g1 nx.num (putN (cellsOf (cV (T ty).zero)) .lf 0) (T ty).zero.cells := CR.of_list (us := (T ty).zero.cells.toList) (by simpa using q1) (fun i c x hc hx => q2 i c x hc (by simpa using hx)) (fun i hi => by simp)
  refine ⟨_, _, reg_row e1 e2 e6 e7 e5 hc (m := (cellsOf (cV (T ty).zero)).length) (by omega) (putN_lt lf_lt (by omega)), ?_⟩
  have := RV.ptr (g := updG g1 nx ⟨w.heap.size, 0, (T ty).zero.cells.size⟩) (n := nx.inc.num) nx 0 (by rw [B.num_inc]; omega)
  simpa [updG] using this

theorem hMakeMap_lz {o : Oper} {ty : Nat} (ho : o.op = .makeMap ty none) {call : Cl} {vals : List V} {t : Tr Obj} {nx : B} {K : KV} {r : R} (hr : ∀ n, R.bad n ≠ r) (h : hMakeMap ty T call vals t nx K = r) :
    ∃ v t' nx', K v t' nx' = r ∧ LazyT P T w0 ng o vals t nx v t' nx' := by
  obtain ⟨kt, et, hk, k1⟩ := mapK_ok h (hr _)
  rw [B.setK_eq, B.incK_eq] at k1
  refine ⟨_, _, _, k1, fun g n ρ w _ => ⟨_, .map #[] 0, by simp [execOp, ho, Instr.makeMap, newObj, Sem.run]; rfl, fun g1 hp1 w1 e1 e2 e3 e4 e5 e6 e7 => ?_⟩⟩
  refine ⟨_, _, Reg.new (n := 0) e1 e2 e6 e7 (o := .map kt []) ⟨#[], 0, by simp only [updG, if_true]; exact e5, rfl, fun i m e hm => by simp at hm, fun e he => by simp at he, by simp [Stamped]⟩, ?_⟩
  have := RV.map (g := updG g1 nx ⟨w.heap.size, 0, 0⟩) (n := nx.inc.num) nx (by rw [B.num_inc]; omega)
  simpa [updG] using this

theorem hBuildSlice_lz (hT : TOK P T) {o : Oper} {t len : Nat} {ps : Array (Nat × Operand)} (ho : o.op = .buildSlice t len ps) {call : Cl} {vals : List V} {hh : Tr Obj} {nx : B} {K : KV} {r : R} (hr : ∀ n, R.bad n ≠ r) (h : hBuildSlice t len ps.toList T call vals hh nx K = r) :
    ∃ v t' nx', K v t' nx' = r ∧ LazyT P T w0 ng o vals hh nx v t' nx' := by
  obtain ⟨e, he, k1⟩ := optK_ok h (hr _)
  obtain ⟨b1, k2⟩ := ite'_ok k1 (hr _)
  obtain ⟨hkn, b2⟩ := and_ok b1
  obtain ⟨hpos, hbig⟩ := and_ok b2
  have hpos' := blt_iff.1 hpos
  have hbig' : len * (T e).size ≤ 16777216 := ble_iff.1 hbig
  have hu := hT.slc (slcE_ok he)
  obtain ⟨d, i, hf⟩ := hT.facts (Abs.TE.known_spec hkn)
  have hzs : (T e).zero.cells.size = (T e).size := hf.zsize
  rw [isZero_eq] at k2
  split at k2
  · rename_i hl
    subst hl
    cases hps : ps.toList with
    | cons p q => rw [hps] at k2; exact absurd k2 (hr _)
    | nil =>
      rw [hps] at k2
      have hp0 : ps = #[] := Array.toList_eq_nil_iff.1 hps
      subst hp0
      refine ⟨_, _, _, k2, fun g n ρ w g3 => ?_⟩
      have hrun : (execOp ρ o).run P w = .ok (.value (.slice (some ⟨w.heap.size, 0, none⟩) 0 0)) (w.alloc (.cells #[] e)) := by
        simp [execOp, ho, Instr.buildSlice, run_underlying hu, hf.sizeOf, Go.newRow, Instr.fill, Array.range_zero']
      exact ⟨_, _, hrun, fun g1 hp1 w1 e1 e2 _ _ _ _ _ => ⟨_, _, .refl e1 e2 _, .emps _⟩⟩
  · rename_i hl
    obtain ⟨cs0, k3, z1, z2⟩ := start_ok k2 hr
    have hlen0 : 0 < len := Nat.pos_of_ne_zero hl
    have hne : len * (T e).size ≠ 0 := by have := Nat.mul_pos hlen0 hpos'; omega
    have hin : PlaceIn (fun i => ite' (Nat.blt i len) (some (Nat.mul i (T e).size, (T e).size)) none) (len * (T e).size) := fun i o z h => by
      simp only [ite'_eq] at h
      split at h
      · rename_i hi
        simp at h
        obtain ⟨rfl, rfl⟩ := h
        have := Nat.mul_le_mul_right (T e).size (show i + 1 ≤ len from blt_iff.1 hi)
        rw [Nat.succ_mul] at this
        exact this
      · cases h
    have hpl : ∀ i p, (fun i => ite' (Nat.blt i len) (some (Nat.mul i (T e).size, (T e).size)) none) i = some p → (fun i => some (i * (T e).size, (T e).size)) i = some p := fun i p h => by
      simp only [ite'_eq] at h
      split at h
      · exact h
      · cases h
    have run : ∀ (ρ : Operand → Value) (w : World) arr', Instr.fill (fun i => some (i * (T e).size, (T e).size)) (madeCells (T e).zero.cells (len * (T e).size)) (ps.toList.map fun p => (p.1, ρ p.2)) = some arr' →
        (execOp ρ o).run P w = .ok (.value (.slice (some ⟨w.heap.size, 0, none⟩) len len)) (w.alloc (.cells arr' e)) := fun ρ w arr' hf' => by
      have hbig2 : ¬ (16777216 < len * (T e).size) := by omega
      have hz : (zeroValue e).run P w = .ok (T e).zero w := by simp [zeroValue, typeInfo, hf.info, hf.zero]
      have hf2 : Instr.fill (fun i => some (i * (T e).size, (T e).size)) ((Array.range (len * (T e).size)).map (fun q => (T e).zero.cells[q % (T e).zero.cells.size]!)) (ps.map fun (p : Nat × Operand) => (p.1, ρ p.2)).toList = some arr' := by
        rw [map_snd_toList]; exact hf'
      simp [execOp, ho, Instr.buildSlice, run_underlying hu, hf.sizeOf, Go.newRow, hbig2, hne, hz]
      have f1'' := hf2
      simp only [Array.toList_map] at f1''
      simp [f1'']
    obtain ⟨csF, k5, k6, k7⟩ := putParts_fill hin hpl hr k3
    simp only [forceN_eq, newBlk_eq] at k5
    refine ⟨_, _, _, k5, fun g n ρ w g3 => ?_⟩
    obtain ⟨arr', f1, f2, f3⟩ := k7 g n ρ (madeCells (T e).zero.cells (len * (T e).size)) (by simpa [ho, Op.operands, Function.comp_def] using g3) (size_madeCells _ _) (z1 g n _ (fun i hi => made_get _ _ (by omega) i (by rw [← hzs]; exact hi)))
    have f4 := k6 (by rw [← hzs]; exact z2)
    refine ⟨_, _, run ρ w arr' f1, fun g1 hp1 w1 e1 e2 e3 e4 e5 e6 e7 => ?_⟩
    refine ⟨_, _, reg_row e1 e2 e6 e7 e5 (f3.mono e3 e4) (m := len * (T e).size) (by omega) f4, ?_⟩
    exact .sl nx (T e).size 0 len (some len) _ len (by rw [B.num_inc]; omega) (Nat.le_refl _) (by simp only [maxL]; have := Nat.le_mul_of_pos_right len hpos'; omega) (fun k hk => by simpa using hk) hpos' (by simp [updG]; omega) (fun _ => by simp [updG])

/-- **The lazy operations.** -/
theorem opH_lz (hT : TOK P T) (o : Oper) (hz : isLz o.op = true) {call : Cl} {vals : List V} {t : Tr Obj} {nx : B} {K : KV} {r : R} (hr : ∀ n, R.bad n ≠ r) (h : opH o.op ng T call vals t nx K = r) : ∃ v t' nx', K v t' nx' = r ∧ LazyT P T w0 ng o vals t nx v t' nx' := by
  generalize hop : o.op = op at hz h
  cases op <;> try (cases hz; done)
  case alloc ty => exact hAlloc_lz (call := call) hT hop hr h
  case makeMap ty x =>
    cases x with
    | none => exact hMakeMap_lz (call := call) hop hr h
    | some y => cases hz
  case buildSlice ty len ps => exact hBuildSlice_lz (call := call) hT hop hr h
end
end Go.Sim

/- Sim: regions whose order is drawn: the trace of the canonical run. -/
namespace Go.Sim
open Go Go.RowKit
open Go.Abs (TE TK SK TOK TFacts patch size_patch patch_in patch_out)

section
variable {P : Program} {T : Nat → TE} {w0 : World} {ng : Nat}

/-- One step of the canonical run. -/
structure TFact (P : Program) (T : Nat → TE) (w0 : World) (ng : Nat) (all : List Oper) (x : Rec) (env env' : Tr V) (h h' : Tr Obj × B) (hs hs' : List (Tr Obj × B)) (b : Bool) (v : V) : Prop where
  at_ : all[x.k]? = some x.o
  wd : Wd all ng env x.o b
  en : env' = putE' x.o.dst env v
  no : b = false → v = .undef ∧ h' = h
  hh : hs' = if x.cl = 2 then h' :: hs else hs
  q : b = true → x.cl = 0 → h' = h ∧ ∀ i, i ≤ x.back → ∃ y : Tr Obj × B, hs[i]? = some y ∧ QT P T w0 ng x.o ((opnds x.o.op).map (opV ng env)) y.1 y.2 v
  z : b = true → x.cl = 1 → LazyT P T w0 ng x.o ((opnds x.o.op).map (opV ng env)) h.1 h.2 v h'.1 h'.2
  c : b = true → x.cl = 2 → OpT P T w0 ng x.o ((opnds x.o.op).map (opV ng env)) h.1 h.2 v h'.1 h'.2

/-- A sequence with one put ahead. -/
def cons0 {α : Type} (a : α) (f : Nat → α) : Nat → α | 0 => a | n + 1 => f n

theorem runD_tr (hT : TOK P T) {call : Cl} (hc : CallOK P T w0 ng call) {all : List Oper} {ms : List Nat} {K : KE} {r : R} (hr : ∀ n, R.bad n ≠ r) : ∀ {its : List DI} {rs : List Rec} {env : Tr V} {t : Tr Obj} {nx : B} {hs : List (Tr Obj × B)}, recs all ms its = some rs → onesOk rs = true →
    runD its all T call ng env t nx hs K = r → ∃ (E : Nat → Tr V) (H : Nat → Tr Obj × B) (hn : Nat → List (Tr Obj × B)) (b : Nat → Bool) (v : Nat → V), E 0 = env ∧ H 0 = (t, nx) ∧ hn 0 = hs ∧ K (E rs.length) (H rs.length).1 (H rs.length).2 = r ∧
      ∀ (p : Nat) x, rs[p]? = some x → ms[x.k]? = some x.mask ∧ x.looks = looksF all x.o ∧ TFact P T w0 ng all x (E p) (E (p + 1)) (H p) (H (p + 1)) (hn p) (hn (p + 1)) (b p) (v p)
  | [], rs, env, t, nx, hs, hrs, _, h => by
    simp [recs] at hrs
    subst hrs
    exact ⟨fun _ => env, fun _ => (t, nx), fun _ => hs, fun _ => true, fun _ => .undef, rfl, rfl, rfl, h, fun p x hx => by simp at hx⟩
  | it :: its, rs, env, t, nx, hs, hrs, hone, h => by
    unfold recs at hrs
    split at hrs
    case h_2 => cases hrs
    rename_i o m r' ho hm hr'
    simp at hrs
    subst hrs
    simp only [onesOk, Bool.and_eq_true] at hone
    obtain ⟨hx, hrest⟩ := hone
    -- what a step makes of the rest
    have go : ∀ (env1 : Tr V) (t1 : Tr Obj) (nx1 : B) (hs1 : List (Tr Obj × B)) (b1 : Bool) (v1 : V), runD its all T call ng env1 t1 nx1 hs1 K = r →
        TFact P T w0 ng all ⟨it.k, it.cl, it.back, o, looksF all o, m⟩ env env1 (t, nx) (t1, nx1) hs hs1 b1 v1 →
        ∃ (E : Nat → Tr V) (H : Nat → Tr Obj × B) (hn : Nat → List (Tr Obj × B)) (b : Nat → Bool) (v : Nat → V), E 0 = env ∧ H 0 = (t, nx) ∧ hn 0 = hs ∧ K (E (r'.length + 1)) (H (r'.length + 1)).1 (H (r'.length + 1)).2 = r ∧
          ∀ (p : Nat) x, (⟨it.k, it.cl, it.back, o, looksF all o, m⟩ :: r')[p]? = some x → ms[x.k]? = some x.mask ∧ x.looks = looksF all x.o ∧ TFact P T w0 ng all x (E p) (E (p + 1)) (H p) (H (p + 1)) (hn p) (hn (p + 1)) (b p) (v p) := fun env1 t1 nx1 hs1 b1 v1 hrun hf => by
      obtain ⟨E, H, hn, b, v, e1, e2, e3, e4, e5⟩ := runD_tr hT hc hr hr' hrest hrun
      refine ⟨cons0 env E, cons0 (t, nx) H, cons0 hs hn, cons0 b1 b, cons0 v1 v, rfl, rfl, rfl, e4, fun p x hxp => ?_⟩
      cases p with
      | zero =>
        simp at hxp
        subst hxp
        refine ⟨hm, rfl, ?_⟩
        show TFact P T w0 ng all _ env (E 0) (t, nx) (H 0) hs (hn 0) b1 v1
        rw [e1, e2, e3]; exact hf
      | succ p => exact e5 p x (by simpa using hxp)
    cases it with
    | q k back =>
      obtain ⟨o', q1, q2⟩ := nthK_ok (show nthK k all _ _ = r from h) (hr _)
      have : o' = o := by rw [show (DI.q k back).k = k from rfl, q1] at ho; simpa using ho
      subst this
      have hq : isQ o'.op = true := hx
      obtain ⟨b, hw, h1, h2⟩ := stepG_ok hr q2
      cases b with
      | false => exact go _ _ _ _ false .undef (h2 rfl) ⟨q1, hw, rfl, fun _ => ⟨rfl, rfl⟩, rfl, fun e => (by cases e), fun e => (by cases e), fun e => (by cases e)⟩
      | true =>
        obtain ⟨v, k1, k2⟩ := atAll_ok (opH_q (P := P) (w0 := w0) (ng := ng) hT o' hq) hc hr (h1 rfl)
        exact go _ _ _ _ true v k1 ⟨q1, hw, rfl, fun e => (by cases e), rfl, fun _ _ => ⟨rfl, k2⟩, fun _ e => (by cases e), fun _ e => (by cases e)⟩
    | z k =>
      obtain ⟨o', q1, q2⟩ := nthK_ok (show nthK k all _ _ = r from h) (hr _)
      have : o' = o := by rw [show (DI.z k).k = k from rfl, q1] at ho; simpa using ho
      subst this
      have hz : isLz o'.op = true := by
        simp only [oneOk, DI.cl, Bool.and_eq_true] at hx
        exact hx.1.1
      obtain ⟨b, hw, h1, h2⟩ := stepG_ok hr q2
      cases b with
      | false => exact go _ _ _ _ false .undef (h2 rfl) ⟨q1, hw, rfl, fun _ => ⟨rfl, rfl⟩, rfl, fun e => (by cases e), fun e => (by cases e), fun e => (by cases e)⟩
      | true =>
        obtain ⟨v, t1, nx1, k1, k2⟩ := opH_lz (P := P) (w0 := w0) hT o' hz hr (h1 rfl)
        exact go _ _ _ _ true v k1 ⟨q1, hw, rfl, fun e => (by cases e), rfl, fun _ e => (by cases e), fun _ _ => k2, fun _ e => (by cases e)⟩
    | c k =>
      obtain ⟨o', q1, q2⟩ := nthK_ok (show nthK k all _ _ = r from h) (hr _)
      have : o' = o := by rw [show (DI.c k).k = k from rfl, q1] at ho; simpa using ho
      subst this
      obtain ⟨b, hw, h1, h2⟩ := stepG_ok hr q2
      cases b with
      | false => exact go _ _ _ _ false .undef (h2 rfl) ⟨q1, hw, rfl, fun _ => ⟨rfl, rfl⟩, rfl, fun e => (by cases e), fun e => (by cases e), fun e => (by cases e)⟩
      | true =>
        obtain ⟨v, t1, nx1, k1, k2⟩ := opH_ok (P := P) (w0 := w0) hT o' call hc _ _ _ _ r hr (h1 rfl)
        exact go _ _ _ _ true v k1 ⟨q1, hw, rfl, fun e => (by cases e), rfl, fun _ e => (by cases e), fun _ e => (by cases e), fun _ _ => k2⟩
    | f m n a b => exact absurd h (hr _)
end
end Go.Sim

/- Sim: regions whose order is drawn: any order. -/
namespace Go.Sim
open Go Go.RowKit
open Go.Abs (TE TK SK TOK TFacts patch size_patch patch_in patch_out)

/-- The chain's positions before this one, the last first. -/
def chp (rs : List Rec) : Nat → List Nat
  | 0 => []
  | p + 1 => match rs[p]? with | some x => if x.cl = 2 then p :: chp rs p else chp rs p | none => chp rs p
theorem mem_chp {rs : List Rec} : ∀ {p q : Nat}, q ∈ chp rs p ↔ q < p ∧ ∃ x, rs[q]? = some x ∧ x.cl = 2
  | 0, q => by simp [chp]
  | p + 1, q => by
    unfold chp
    split
    · rename_i x hx
      split
      · rename_i hc
        rw [List.mem_cons, mem_chp]
        constructor
        · rintro (rfl | ⟨h1, h2⟩)
          · exact ⟨by omega, x, hx, hc⟩
          · exact ⟨by omega, h2⟩
        · rintro ⟨h1, h2⟩
          rcases Nat.lt_or_ge q p with h | h
          · exact .inr ⟨h, h2⟩
          · exact .inl (by omega)
      · rename_i hc
        rw [mem_chp]
        constructor
        · rintro ⟨h1, h2⟩; exact ⟨by omega, h2⟩
        · rintro ⟨h1, y, h2, h3⟩
          rcases Nat.lt_or_ge q p with h | h
          · exact ⟨h, y, h2, h3⟩
          · have : q = p := by omega
            subst this
            rw [hx] at h2
            cases h2
            exact absurd h3 hc
    · rename_i hx
      rw [mem_chp]
      constructor
      · rintro ⟨h1, h2⟩; exact ⟨by omega, h2⟩
      · rintro ⟨h1, y, h2, h3⟩
        rcases Nat.lt_or_ge q p with h | h
        · exact ⟨h, y, h2, h3⟩
        · have : q = p := by omega
          subst this
          rw [hx] at h2
          cases h2
/-- The later the position, the nearer the front. -/
theorem chp_index {rs : List Rec} : ∀ {p i j q q' : Nat}, (chp rs p)[i]? = some q → (chp rs p)[j]? = some q' → q' ≤ q → i ≤ j := by
  intro p
  induction p with
  | zero => intro i j q q' h; simp [chp] at h
  | succ p ih =>
    intro i j q q' h1 h2 hle
    unfold chp at h1 h2
    split at h1
    · split at h1
      · rename_i x hx hc
        simp only [hx, hc, if_true] at h2
        cases i with
        | zero => omega
        | succ i =>
          cases j with
          | zero =>
            simp at h1 h2
            have := (mem_chp.1 (List.mem_of_getElem? h1)).1
            omega
          | succ j => have := ih (by simpa using h1) (by simpa using h2) hle; omega
      · rename_i x hx hc
        simp only [hx, hc, if_false] at h2
        exact ih h1 h2 hle
    · rename_i hx
      simp only [hx] at h2
      exact ih h1 h2 hle

def kAt (rs : List Rec) (q : Nat) : Nat := match rs[q]? with | some y => y.k | none => 0
theorem backOk_spec {rs : List Rec} : ∀ {r2 r1 : List Rec}, rs = r1 ++ r2 → backOk ((chp rs r1.length).map (kAt rs)) r2 = true →
    ∀ (j : Nat) x, r2[j]? = some x → x.cl = 0 → match (chp rs (r1.length + j))[x.back]? with | some q => inMask (kAt rs q) x = true | none => x.back = (chp rs (r1.length + j)).length
  | [], _, _, _, j, x, h, _ => by simp at h
  | z :: r2, r1, he, h, j, x, hx, hc => by
    simp only [backOk, Bool.and_eq_true] at h
    obtain ⟨h1, h2⟩ := h
    cases j with
    | zero =>
      simp at hx
      subst hx
      rw [hc] at h1
      simp only [List.getElem?_map] at h1
      rw [Nat.add_zero]
      cases hg : (chp rs r1.length)[z.back]? with
      | none => rw [hg] at h1; simp at h1; simpa using h1
      | some q => rw [hg] at h1; simpa using h1
    | succ j =>
      have hz : rs[r1.length]? = some z := by rw [he]; simp
      have h2' : backOk ((chp rs (r1 ++ [z]).length).map (kAt rs)) r2 = true := by
        rw [List.length_append, List.length_singleton]
        simp only [chp, hz]
        split at h2
        · rename_i h3; rw [if_pos h3]; simpa [kAt, hz] using h2
        · rename_i h3; rw [if_neg h3]; exact h2
      have := backOk_spec (r2 := r2) (r1 := r1 ++ [z]) (by rw [he]; simp) h2' j x (by simpa using hx) hc
      rw [List.length_append, List.length_singleton, Nat.add_assoc, Nat.add_comm 1 j] at this
      exact this

theorem zOk_spec {d : Nat} : ∀ {r : List Rec} {w0 : Option Nat}, zOk d w0 r = true → ∀ (j : Nat) y, r[j]? = some y → d ∈ y.looks →
    (∃ w, w0 = some w ∧ inMask w y = true) ∨ ∃ (w : Nat) (c : Rec), w ≤ j ∧ r[w]? = some c ∧ c.cl = 2 ∧ (w = j ∨ inMask c.k y = true)
  | [], _, _, j, y, h, _ => by simp at h
  | z :: r, none, h, j, y, hy, hd => by
    simp only [zOk] at h
    split at h
    · rename_i hz
      have hz := beq_iff.1 hz
      cases j with
      | zero => simp at hy; exact .inr ⟨0, z, Nat.le_refl _, rfl, hz, .inl rfl⟩
      | succ j =>
        rcases zOk_spec h j y (by simpa using hy) hd with ⟨w, e, hw⟩ | ⟨w, c, h1, h2, h3, h4⟩
        · cases e; exact .inr ⟨0, z, Nat.zero_le _, rfl, hz, .inr hw⟩
        · exact .inr ⟨w + 1, c, by omega, by simpa using h2, h3, h4.imp (by omega) id⟩
    · simp only [Bool.and_eq_true, Bool.not_eq_true'] at h
      cases j with
      | zero =>
        simp at hy
        subst hy
        have := memN_iff.2 hd
        rw [h.1] at this; cases this
      | succ j =>
        rcases zOk_spec h.2 j y (by simpa using hy) hd with ⟨w, e, _⟩ | ⟨w, c, h1, h2, h3, h4⟩
        · cases e
        · exact .inr ⟨w + 1, c, by omega, by simpa using h2, h3, h4.imp (by omega) id⟩
  | z :: r, some w, h, j, y, hy, hd => by
    simp only [zOk, Bool.and_eq_true, Bool.or_eq_true, Bool.not_eq_true'] at h
    cases j with
    | zero =>
      simp at hy
      subst hy
      rcases h.1 with h1 | h1
      · rw [memN_iff.2 hd] at h1; cases h1
      · exact .inl ⟨w, rfl, h1⟩
    | succ j =>
      rcases zOk_spec h.2 j y (by simpa using hy) hd with h1 | ⟨w', c, h1, h2, h3, h4⟩
      · exact .inl h1
      · exact .inr ⟨w' + 1, c, by omega, by simpa using h2, h3, h4.imp (by omega) id⟩

section
variable (P : Program) (T : Nat → TE) (w0 : World) (ng nt : Nat) (ops : List Oper) (ms : List Nat) (rs : List Rec) (E : Nat → Tr V) (H : Nat → Tr Obj × B) (hn : Nat → List (Tr Obj × B)) (b : Nat → Bool) (v : Nat → V)

/-- What is known of the canonical run. -/
structure Can : Prop where
  pair : allP pairOk rs = true
  cl3 : ∀ (p : Nat) x, rs[p]? = some x → x.cl < 3
  ones : onesOk rs = true
  back : ∀ (p : Nat) x, rs[p]? = some x → x.cl = 0 → match (chp rs p)[x.back]? with | some q => inMask (kAt rs q) x = true | none => x.back = (chp rs p).length
  cover : ∀ k, k < ops.length → ∃ (p : Nat) (x : Rec), rs[p]? = some x ∧ x.k = k
  mks : MaskOK ops ms
  tf : ∀ (p : Nat) x, rs[p]? = some x → ms[x.k]? = some x.mask ∧ x.looks = looksF ops x.o ∧ TFact P T w0 ng ops x (E p) (E (p + 1)) (H p) (H (p + 1)) (hn p) (hn (p + 1)) (b p) (v p)
  hd : ∀ o ∈ ops, ∀ d, o.dst = some d → d < nt
  hs : ∀ p, p ≤ rs.length → hn p = (chp rs p).map (fun q => H (q + 1)) ++ [H 0]

def Lk (listed : Array Bool) (k : Nat) : Prop := listed.getD k false = true

/-- A lazy operation that has been carried out and not yet been told of. -/
structure Pend (wS : World) (g : Gh) (hp : B → Option Obj) (n : Nat) (a : Act) (w : World) (p : Nat) (x : Rec) (bl : Nat) : Prop where
  lo : wS.heap.size ≤ bl
  hi : bl < w.heap.size
  free : ∀ id o, hp id = some o → (g id).b ≠ bl
  reg : ∃ d ob ge ne, x.o.dst = some d ∧ w.heap[bl]? = some ob ∧ Ext ge g ne ∧ ne ≤ n ∧
    ∀ g1 hp1 w1, HR T w0 ng g1 hp1 (H p).2 w1 → Sub (H p).1 hp1 → Ext ge g1 ne → ne ≤ (H p).2.num → w1.heap[bl]? = some ob → (∀ id o, hp1 id = some o → (g1 id).b ≠ bl) →
      ∃ g' hp', Reg T w0 ng bl g1 hp1 (H p).1 (H p).2 w1 g' hp' (H (p + 1)).1 (H (p + 1)).2 ∧ RV g' (H (p + 1)).2.num (v p) (a.tmps.getD d Go.undef)

/-- Where the execution stands: 'r' is a position behind all that is told of. -/
structure Inv (g0 : Gh) (hp0 : B → Option Obj) (wS : World) (listed : Array Bool) (a : Act) (w : World) (r : Nat) (g : Gh) (hp : B → Option Obj) (bl : Nat → Nat) : Prop where
  rN : r ≤ rs.length
  size : listed.size = ops.length
  closed : Closed ops (Lk listed)
  low : ∀ (p : Nat) x, p < r → rs[p]? = some x → Lk listed x.k
  high : ∀ (p : Nat) x, r ≤ p → rs[p]? = some x → x.cl = 2 → ¬ Lk listed x.k
  step : Step T w0 ng g0 hp0 (H 0).1 (H 0).2 wS g hp (H r).1 (H r).2 w
  defers : a.defers = []
  tsize : a.tmps.size = nt
  env : ∀ p, p ≤ rs.length → (∀ x, rs[p]? = some x → ¬ Lk listed x.k) → ∀ t, (∀ x, rs[p]? = some x → t ∈ x.looks) → (∀ (j : Nat) y, j < p → rs[j]? = some y → y.o.dst = some t → Lk listed y.k ∧ (y.cl = 1 → j < r)) →
    ∀ u, (bOf t).get (E p) = some u → RV g (H r).2.num u (a.tmps.getD t Go.undef)
  pend : ∀ (p : Nat) x, r ≤ p → rs[p]? = some x → x.cl = 1 → Lk listed x.k → Pend T w0 ng H v wS g hp (H r).2.num a w p x (bl p)
  dist : ∀ (p p' : Nat) x x', r ≤ p → r ≤ p' → rs[p]? = some x → rs[p']? = some x' → x.cl = 1 → x'.cl = 1 → Lk listed x.k → Lk listed x'.k → p ≠ p' → bl p ≠ bl p'
end

section
variable {P : Program} {T : Nat → TE} {w0 : World} {ng nt : Nat} {ops : List Oper} {ms : List Nat} {rs : List Rec} {E : Nat → Tr V} {H : Nat → Tr Obj × B} {hn : Nat → List (Tr Obj × B)} {b : Nat → Bool} {v : Nat → V}

theorem sameB_iff {d d' : Option Nat} : sameB d d' = true ↔ ∃ t, d = some t ∧ d' = some t := by
  cases d with
  | none => exact ⟨fun h => (by cases h), fun ⟨t, h, _⟩ => (by cases h)⟩
  | some d =>
    cases d' with
    | none => exact ⟨fun h => (by cases h), fun ⟨t, _, h⟩ => (by cases h)⟩
    | some d' => exact ⟨fun h => ⟨d, rfl, by rw [beq_iff.1 h]⟩, fun ⟨t, h, h'⟩ => by cases h; cases h'; exact beq_iff.2 rfl⟩
theorem hitB_iff {d : Option Nat} {l : List Nat} : hitB d l = true ↔ ∃ t, d = some t ∧ t ∈ l := by
  cases d with
  | none => simp [hitB]
  | some d => simp [hitB, memN_iff]

/-- What the check of a pair says. -/
theorem pair_spec {x y : Rec} (h : pairOk x y = true) : x.k ≠ y.k ∧ (inMask x.k y = true ∨ ((∀ t, x.o.dst = some t → t ∉ y.looks) ∧ (∀ t, x.o.dst = some t → y.o.dst ≠ some t) ∧ ∀ t, y.o.dst = some t → t ∉ x.looks)) ∧
    (y.cl = 2 → inMask x.k y = true) ∧ ((x.cl = 1 ∨ y.cl = 1) → ∀ t, x.o.dst = some t → y.o.dst ≠ some t) := by
  unfold pairOk at h
  simp only [Bool.and_eq_true, Bool.or_eq_true, Bool.not_eq_true'] at h
  obtain ⟨⟨⟨h1, h2⟩, h3⟩, h4⟩ := h
  have c1 : x.k ≠ y.k := fun e => by rw [e, Nat.beq_refl] at h1; cases h1
  have c2 : inMask x.k y = true ∨ ((∀ t, x.o.dst = some t → t ∉ y.looks) ∧ (∀ t, x.o.dst = some t → y.o.dst ≠ some t) ∧ ∀ t, y.o.dst = some t → t ∉ x.looks) := by
    rcases h2 with h2 | ⟨⟨h5, h6⟩, h7⟩
    · exact .inl h2
    · refine .inr ⟨fun t ht hm => ?_, fun t ht he => ?_, fun t ht hm => ?_⟩
      · rw [hitB_iff.2 ⟨t, ht, hm⟩] at h5; cases h5
      · rw [sameB_iff.2 ⟨t, ht, he⟩] at h6; cases h6
      · rw [hitB_iff.2 ⟨t, ht, hm⟩] at h7; cases h7
  have c3 : y.cl = 2 → inMask x.k y = true := fun e => by
    rcases h3 with h3 | h3
    · rw [e] at h3; cases h3
    · exact h3
  have c4 : (x.cl = 1 ∨ y.cl = 1) → ∀ t, x.o.dst = some t → y.o.dst ≠ some t := fun e t ht he => by
    rcases h4 with ⟨h5, h6⟩ | h4
    · rcases e with e | e
      · rw [e] at h5; cases h5
      · rw [e] at h6; cases h6
    · rw [sameB_iff.2 ⟨t, ht, he⟩] at h4; cases h4
  exact ⟨c1, c2, c3, c4⟩

theorem Can.pr (hC : Can P T w0 ng nt ops ms rs E H hn b v) {i j : Nat} {x y : Rec} (hij : i < j) (hx : rs[i]? = some x) (hy : rs[j]? = some y) :
    x.k ≠ y.k ∧ (inMask x.k y = true ∨ ((∀ t, x.o.dst = some t → t ∉ y.looks) ∧ (∀ t, x.o.dst = some t → y.o.dst ≠ some t) ∧ ∀ t, y.o.dst = some t → t ∉ x.looks)) ∧
    (y.cl = 2 → inMask x.k y = true) ∧ ((x.cl = 1 ∨ y.cl = 1) → ∀ t, x.o.dst = some t → y.o.dst ≠ some t) := pair_spec (allP_spec hC.pair i j x y hij hx hy)

/-- A temporary that nobody writes between two positions. -/
theorem Can.keep (hC : Can P T w0 ng nt ops ms rs E H hn b v) {t i : Nat} (j : Nat) : i ≤ j → j ≤ rs.length → (∀ (q : Nat) y, i ≤ q → q < j → rs[q]? = some y → y.o.dst ≠ some t) → (bOf t).get (E j) = (bOf t).get (E i) := by
  induction j with
  | zero =>
    intro h1 _ _
    have : i = 0 := by omega
    subst this; rfl
  | succ j ih =>
    intro h1 h2 h3
    rcases Nat.lt_or_ge j i with h | h
    · have : i = j + 1 := by omega
      subst this; rfl
    · have hj : j < rs.length := by omega
      have hx : rs[j]? = some rs[j] := List.getElem?_eq_getElem hj
      obtain ⟨_, _, hf⟩ := hC.tf j _ hx
      rw [hf.en, ← ih h (by omega) fun q y hq hq' => h3 q y hq (by omega)]
      have hne := h3 j _ h (by omega) hx
      unfold putE'
      cases hd : rs[j].o.dst with
      | none => rfl
      | some d =>
        simp only
        rw [B.get_put, if_neg]
        intro e
        have := bOf_inj e
        subst this
        exact hne hd

theorem Ext.sub {g g' : Gh} {n m : Nat} (h : Ext g g' n) (hm : m ≤ n) : Ext g g' m := fun id hi => h id (Nat.lt_of_lt_of_le hi hm)
/-- A block told of. -/
theorem Step.reg {g0 g g' : Gh} {hp0 hp hp' : B → Option Obj} {t0 t t' : Tr Obj} {nx0 nx nx' : B} {wS w : World} {bl : Nat} (h : Step T w0 ng g0 hp0 t0 nx0 wS g hp t nx w) (hr : Reg T w0 ng bl g hp t nx w g' hp' t' nx') (hb : wS.heap.size ≤ bl) :
    Step T w0 ng g0 hp0 t0 nx0 wS g' hp' t' nx' w := by
  refine ⟨h.ext.trans hr.ext h.le, Nat.le_trans h.le hr.le, hr.hr, hr.sub, fun id hi hn => (hr.fr id (Nat.lt_of_lt_of_le hi h.le) (h.dm id hi hn)).trans (h.fr id hi hn),
    fun id hi hn => hr.dm id (Nat.lt_of_lt_of_le hi h.le) (h.dm id hi hn), h.sz, h.dr, h.un, fun id o h1 h2 => ?_, fun id o h1 h2 => ?_⟩
  · rcases hr.pl id o h1 with ⟨h3, h4⟩ | h3
    · rw [h4]; exact h.pl id o h3 h2
    · exact .inl (by rw [h3]; exact hb)
  · rcases hr.pl2 id o h1 with ⟨h3, h4⟩ | ⟨_, h3⟩
    · rw [h4]; exact h.pl2 id o h3 h2
    · exact .inl (by rw [h3]; exact hb)

/-- On over a position that is done. -/
theorem Inv.advance (hC : Can P T w0 ng nt ops ms rs E H hn b v) {g0 : Gh} {hp0 : B → Option Obj} {wS : World} {listed : Array Bool} {a : Act} {w : World} {r : Nat} {g : Gh} {hp : B → Option Obj} {bl : Nat → Nat}
    (hI : Inv T w0 ng nt ops rs E H v g0 hp0 wS listed a w r g hp bl) {x : Rec} (hx : rs[r]? = some x) (hnc : x.cl ≠ 2) (hl : Lk listed x.k) :
    ∃ g' hp', Inv T w0 ng nt ops rs E H v g0 hp0 wS listed a w (r + 1) g' hp' bl ∧ (∀ id o, hp' id = some o → (hp id = some o ∧ g' id = g id) ∨ (g' id).b = bl r) := by
  have hrN : r < rs.length := (List.getElem?_eq_some_iff.1 hx).1
  obtain ⟨hmk, hlk, hf⟩ := hC.tf r x hx
  have low' : ∀ (p : Nat) y, p < r + 1 → rs[p]? = some y → Lk listed y.k := fun p y hp hy => by
    rcases Nat.lt_or_ge p r with h | h
    · exact hI.low p y h hy
    · have : p = r := by omega
      subst this
      rw [hx] at hy
      cases hy
      exact hl
  by_cases hz : x.cl = 1
  · obtain ⟨hlo, hhi, hfree, d, ob, ge, ne, hd, hob, hge, hne, hreg⟩ := hI.pend r x (Nat.le_refl _) hx hz hl
    obtain ⟨g', hp', hR, hv⟩ := hreg g hp w hI.step.hr hI.step.sub hge hne hob hfree
    have hids : ∀ id o, hp' id = some o → (hp id = some o ∧ g' id = g id) ∨ (g' id).b = bl r := fun id o h => (hR.pl2 id o h).imp (fun q => q) And.right
    refine ⟨g', hp', ⟨by omega, hI.size, hI.closed, low', fun p y hp hy hc => hI.high p y (by omega) hy hc, hI.step.reg hR hlo, hI.defers, hI.tsize, fun p hp0 hu t ht hw u hg => ?_, fun p y hp1 hy hc hk => ?_, fun p p' y y' h1 h2 => hI.dist p p' y y' (by omega) (by omega)⟩, hids⟩
    · by_cases hcase : r < p ∧ t = d
      · obtain ⟨hrp, rfl⟩ := hcase
        have hkeep := hC.keep (t := t) (i := r + 1) p (by omega) hp0 fun q y hq1 hq2 hy he => (hC.pr (show r < q by omega) hx hy).2.2.2 (.inl hz) t hd he
        rw [hkeep, hf.en] at hg
        simp only [hd, putE', B.get_put_same] at hg
        cases hg
        exact hv
      · refine (hI.env p hp0 hu t ht (fun j y hj hy hdy => ⟨(hw j y hj hy hdy).1, fun h1 => ?_⟩) u hg).mono hR.ext hR.le
        have := (hw j y hj hy hdy).2 h1
        rcases Nat.lt_or_ge j r with h | h
        · exact h
        · have : j = r := by omega
          subst this
          rw [hx] at hy
          cases hy
          rw [hd] at hdy
          cases hdy
          exact absurd ⟨hj, rfl⟩ hcase
    · obtain ⟨plo, phi, pfree, pd, pob, pge, pne, q1, q2, q3, q4, q5⟩ := hI.pend p y (by omega) hy hc hk
      refine ⟨plo, phi, fun id o h => ?_, pd, pob, pge, pne, q1, q2, q3.trans (hR.ext.sub q4) (Nat.le_refl _), Nat.le_trans q4 hR.le, q5⟩
      rcases hids id o h with ⟨h1, h2⟩ | h1
      · rw [h2]; exact pfree id o h1
      · rw [h1]; exact hI.dist r p x y (Nat.le_refl _) (by omega) hx hy hz hc hl hk (by omega)
  · have hH : H (r + 1) = H r := by
      cases hb : b r with
      | false => exact (hf.no hb).2
      | true =>
        have : x.cl = 0 := by have := hC.cl3 r x hx; omega
        exact (hf.q hb this).1
    refine ⟨g, hp, ⟨by omega, hI.size, hI.closed, low', fun p y hp hy hc => hI.high p y (by omega) hy hc, by rw [hH]; exact hI.step, hI.defers, hI.tsize, fun p hp hu t ht hw u hg => ?_, fun p y hp hy hc hk => by rw [hH]; exact hI.pend p y (by omega) hy hc hk, fun p p' y y' h1 h2 => hI.dist p p' y y' (by omega) (by omega)⟩, fun id o h => .inl ⟨h, rfl⟩⟩
    rw [hH]
    refine hI.env p hp hu t ht (fun j y hj hy hd => ⟨(hw j y hj hy hd).1, fun h1 => ?_⟩) u hg
    have := (hw j y hj hy hd).2 h1
    rcases Nat.lt_or_ge j r with h | h
    · exact h
    · have : j = r := by omega
      subst this
      rw [hx] at hy
      cases hy
      exact absurd h1 hz

theorem Lk_set {listed : Array Bool} {k j : Nat} (hk : k < listed.size) : Lk (listed.setIfInBounds k true) j ↔ j = k ∨ Lk listed j := by
  unfold Lk
  by_cases h : k = j
  · subst h; simp [hk]
  · simp [Array.getElem?_setIfInBounds_ne h, Ne.symm h]
theorem get_put {a : Act} {nt : Nat} (hs : a.tmps.size = nt) {dst : Option Tmp} (hd : ∀ d, dst = some d → d < nt) (u : Value) (t : Nat) : (dst = some t → (a.put dst u).tmps.getD t Go.undef = u) ∧ (dst ≠ some t → (a.put dst u).tmps.getD t Go.undef = a.tmps.getD t Go.undef) := by
  cases dst with
  | none => exact ⟨fun h => (by cases h), fun _ => rfl⟩
  | some d =>
    refine ⟨fun h => ?_, fun h => ?_⟩
    · cases h; simp [Act.put, hs, hd t rfl]
    · have hne : d ≠ t := fun e => h (by rw [e])
      simp [Act.put, Array.getElem?_setIfInBounds_ne hne]

/-- What is known of the temporaries, behind an operation that is not lazy. -/
theorem env_put (hC : Can P T w0 ng nt ops ms rs E H hn b v) {listed : Array Bool} {a : Act} {r r' : Nat} {g : Gh} {n : Nat}
    (henv : ∀ p, p ≤ rs.length → (∀ x, rs[p]? = some x → ¬ Lk listed x.k) → ∀ t, (∀ x, rs[p]? = some x → t ∈ x.looks) → (∀ (j : Nat) y, j < p → rs[j]? = some y → y.o.dst = some t → Lk listed y.k ∧ (y.cl = 1 → j < r)) → ∀ u, (bOf t).get (E p) = some u → RV g n u (a.tmps.getD t Go.undef))
    (hsz : a.tmps.size = nt) {pm : Nat} {x : Rec} (hx : rs[pm]? = some x) (hk : x.k < listed.size) (hun : ¬ Lk listed x.k) (hmask : ∀ i, x.mask.testBit i = true → Lk listed i) (hlk : ∀ (j : Nat) y, rs[j]? = some y → Lk listed y.k → ∀ i, y.mask.testBit i = true → Lk listed i)
    (hd : ∀ d, x.o.dst = some d → d < nt) {u : Value} (hu : RV g n (v pm) u) (hr' : ∀ (j : Nat) y, rs[j]? = some y → y.cl = 1 → j < r' → j < r) :
    ∀ p, p ≤ rs.length → (∀ y, rs[p]? = some y → ¬ Lk (listed.setIfInBounds x.k true) y.k) → ∀ t, (∀ y, rs[p]? = some y → t ∈ y.looks) → (∀ (j : Nat) y, j < p → rs[j]? = some y → y.o.dst = some t → Lk (listed.setIfInBounds x.k true) y.k ∧ (y.cl = 1 → j < r')) →
      ∀ u', (bOf t).get (E p) = some u' → RV g n u' ((a.put x.o.dst u).tmps.getD t Go.undef) := by
  intro p hp hpu t ht hw u' hg
  have hpmN : pm < rs.length := (List.getElem?_eq_some_iff.1 hx).1
  obtain ⟨_, _, hf⟩ := hC.tf pm x hx
  have hpu' : ∀ y, rs[p]? = some y → ¬ Lk listed y.k := fun y hy h => hpu y hy ((Lk_set hk).2 (.inr h))
  have hppm : p ≠ pm := fun e => by subst e; exact hpu x hx ((Lk_set hk).2 (.inl rfl))
  by_cases hdt : x.o.dst = some t
  · rw [(get_put hsz hd u t).1 hdt]
    rcases Nat.lt_or_ge pm p with hlt | hge
    · -- nobody writes between
      have hkeep := hC.keep (t := t) (i := pm + 1) p (by omega) hp fun q y hq1 hq2 hy he => by
        have hpr := hC.pr (show pm < q by omega) hx hy
        have hyl : Lk listed y.k := by
          rcases (Lk_set hk).1 (hw q y hq2 hy he).1 with h | h
          · exact absurd h.symm hpr.1
          · exact h
        rcases hpr.2.1 with h | ⟨_, h, _⟩
        · exact hun (hlk q y hy hyl _ h)
        · exact h t hdt he
      rw [hkeep, hf.en] at hg
      simp only [hdt, putE', B.get_put_same] at hg
      cases hg
      exact hu
    · have hlt : p < pm := by omega
      have hp2 : rs[p]? = some rs[p] := List.getElem?_eq_getElem (by omega)
      have hpr := hC.pr hlt hp2 hx
      rcases hpr.2.1 with h | ⟨_, _, h⟩
      · exact absurd (hmask _ h) (hpu' _ hp2)
      · exact absurd (ht _ hp2) (h t hdt)
  · rw [(get_put hsz hd u t).2 hdt]
    refine henv p hp hpu' t ht (fun j y hj hy hdy => ⟨?_, fun h1 => hr' j y hy h1 ((hw j y hj hy hdy).2 h1)⟩) u' hg
    rcases (Lk_set hk).1 (hw j y hj hy hdy).1 with h | h
    · have : j = pm := by
        rcases Nat.lt_trichotomy j pm with h1 | h1 | h1
        · exact absurd h (hC.pr h1 hy hx).1
        · exact h1
        · exact absurd h.symm (hC.pr h1 hx hy).1
      subst this
      rw [hx] at hy
      cases hy
      exact absurd hdy hdt
    · exact h

theorem ready_ok (hC : Can P T w0 ng nt ops ms rs E H hn b v) {listed : Array Bool} (hsz : listed.size = ops.length) (hcl : Closed ops (Lk listed)) {k : Nat} (h : k ∈ Region.ready .any ops.toArray listed) :
    ∃ (p : Nat) (x : Rec), rs[p]? = some x ∧ x.k = k ∧ ¬ Lk listed k ∧ k < listed.size ∧ ops.toArray[k]? = some x.o ∧ (∀ i, x.mask.testBit i = true → Lk listed i) ∧ Closed ops (Lk (listed.setIfInBounds k true)) := by
  obtain ⟨h1, o, h2, h3⟩ := mem_ready.1 h
  have h2' : ops[k]? = some o := by simpa using h2
  have hk : k < listed.size := by rw [hsz]; exact (List.getElem?_eq_some_iff.1 h2').1
  obtain ⟨p, x, hx, hxk⟩ := hC.cover k (by omega)
  obtain ⟨hmk, _, hf⟩ := hC.tf p x hx
  have hat := hf.at_
  rw [hxk] at hat hmk
  rw [h2'] at hat
  cases hat
  have hun : ¬ Lk listed k := fun hl => by
    unfold Lk at hl
    simp [hk] at h1 hl
    rw [hl] at h1; cases h1
  refine ⟨p, x, hx, hxk, hun, hk, h2, masks_pre hC.mks hcl h2' hmk h3, fun j o' hj ho' e he hb => ?_⟩
  rcases (Lk_set hk).1 hj with rfl | hj
  · rw [h2'] at ho'
    cases ho'
    exact (Lk_set hk).2 (.inr (h3 e he hb))
  · exact (Lk_set hk).2 (.inr (hcl j o' hj ho' e he hb))

theorem closed_mask (hC : Can P T w0 ng nt ops ms rs E H hn b v) {listed : Array Bool} (hcl : Closed ops (Lk listed)) (j : Nat) (y : Rec) (hy : rs[j]? = some y) (hl : Lk listed y.k) : ∀ i, y.mask.testBit i = true → Lk listed i := by
  obtain ⟨hmk, _, hf⟩ := hC.tf j y hy
  exact masks_pre hC.mks hcl hf.at_ hmk fun e he hb => hcl y.k y.o hl hf.at_ e he hb

/-- A position behind an operation of the chain, or the first. -/
def Start (rs : List Rec) (r : Nat) : Prop := r = 0 ∨ ∃ q x, r = q + 1 ∧ rs[q]? = some x ∧ x.cl = 2

/-- A quiet operation is carried out where the canonical run has looked. -/
theorem quiet_at (hC : Can P T w0 ng nt ops ms rs E H hn b v) {listed : Array Bool} {r p : Nat} {x : Rec} (hst : Start rs r) (hrp : r ≤ p) (hhigh : ∀ (p : Nat) x, r ≤ p → rs[p]? = some x → x.cl = 2 → ¬ Lk listed x.k) (hx : rs[p]? = some x) (hc : x.cl = 0) (hb : b p = true)
    (hmask : ∀ i, x.mask.testBit i = true → Lk listed i) : QT P T w0 ng x.o ((opnds x.o.op).map (opV ng (E p))) (H r).1 (H r).2 (v p) := by
  have hp : p < rs.length := (List.getElem?_eq_some_iff.1 hx).1
  obtain ⟨_, _, hf⟩ := hC.tf p x hx
  obtain ⟨_, hq⟩ := hf.q hb hc
  have hback := hC.back p x hx hc
  have hs := hC.hs p (by omega)
  -- an operation of the chain that must come before it lies before r
  have hlow : ∀ q', (chp rs p)[x.back]? = some q' → q' < r := fun q' h => by
    rw [h] at hback
    obtain ⟨_, y, hy, hyc⟩ := mem_chp.1 (List.mem_of_getElem? h)
    have hl := hmask _ hback
    unfold kAt at hl
    rw [hy] at hl
    rcases Nat.lt_or_ge q' r with h' | h'
    · exact h'
    · exact absurd hl (hhigh q' y h' hy hyc)
  have fin : ∀ i, i ≤ x.back → (hn p)[i]? = some (H r) → QT P T w0 ng x.o ((opnds x.o.op).map (opV ng (E p))) (H r).1 (H r).2 (v p) := fun i hi he => by
    obtain ⟨y, h1, h2⟩ := hq i hi
    rw [he] at h1
    cases h1
    exact h2
  rcases hst with rfl | ⟨q, y, rfl, hy, hyc⟩
  · have hnone : (chp rs p)[x.back]? = none := by
      cases h : (chp rs p)[x.back]? with
      | none => rfl
      | some q' => have := hlow q' h; omega
    rw [hnone] at hback
    refine fin (chp rs p).length (by simp only at hback; omega) ?_
    rw [hs, List.getElem?_append_right (by simp)]
    simp
  · obtain ⟨i, hi⟩ := List.getElem?_of_mem (mem_chp.2 ⟨show q < p by omega, y, hy, hyc⟩)
    have hil : i < (chp rs p).length := (List.getElem?_eq_some_iff.1 hi).1
    refine fin i ?_ ?_
    · cases h : (chp rs p)[x.back]? with
      | none => rw [h] at hback; simp only at hback; omega
      | some q' => exact chp_index hi h (by have := hlow q' h; omega)
    · rw [hs, List.getElem?_append_left (by simpa using hil), List.getElem?_map, hi]
      rfl

/-- On over all positions before this one. -/
theorem Inv.advances (hC : Can P T w0 ng nt ops ms rs E H hn b v) {g0 : Gh} {hp0 : B → Option Obj} {wS : World} {listed : Array Bool} {a : Act} {w : World} {q : Nat} : ∀ (m : Nat) {r : Nat} {g : Gh} {hp : B → Option Obj} {bl : Nat → Nat},
    Inv T w0 ng nt ops rs E H v g0 hp0 wS listed a w r g hp bl → r + m = q → (∀ (p : Nat) x, r ≤ p → p < q → rs[p]? = some x → x.cl ≠ 2 ∧ Lk listed x.k) → q ≤ rs.length → ∃ g' hp', Inv T w0 ng nt ops rs E H v g0 hp0 wS listed a w q g' hp' bl
  | 0, r, g, hp, bl, hI, hq, _, _ => by have : r = q := by omega
                                        subst this
                                        exact ⟨g, hp, hI⟩
  | m + 1, r, g, hp, bl, hI, hq, hall, hN => by
    have hr : r < rs.length := by omega
    obtain ⟨h1, h2⟩ := hall r _ (Nat.le_refl _) (by omega) (List.getElem?_eq_getElem hr)
    obtain ⟨g1, hp1, hI1, _⟩ := hI.advance hC (List.getElem?_eq_getElem hr) h1 h2
    exact Inv.advances hC m hI1 (by omega) (fun p x hp hpq hx => hall p x (by omega) hpq hx) hN

theorem Pend.keep {wS : World} {g g' : Gh} {hp hp' : B → Option Obj} {n n' : Nat} {a a' : Act} {w w' : World} {p : Nat} {x : Rec} {bl : Nat} (h : Pend T w0 ng H v wS g hp n a w p x bl) (hsz : w.heap.size ≤ w'.heap.size) (hw : w'.heap[bl]? = w.heap[bl]?)
    (hfree : ∀ id o, hp' id = some o → (g' id).b ≠ bl) (he : Ext g g' n) (hn : n ≤ n') (ha : ∀ d, x.o.dst = some d → a'.tmps.getD d Go.undef = a.tmps.getD d Go.undef) : Pend T w0 ng H v wS g' hp' n' a' w' p x bl := by
  obtain ⟨h1, h2, h3, d, ob, ge, ne, q1, q2, q3, q4, q5⟩ := h
  exact ⟨h1, Nat.lt_of_lt_of_le h2 hsz, hfree, d, ob, ge, ne, q1, by rw [hw]; exact q2, q3.trans (he.sub q4) (Nat.le_refl _), Nat.le_trans q4 hn, by rw [ha d q1]; exact q5⟩

/-- A step leaves alone, and does not name, a block that was there and that nobody named. -/
theorem Step.apart {g g' : Gh} {hp hp' : B → Option Obj} {t t' : Tr Obj} {nx nx' : B} {w w' : World} (h : Step T w0 ng g hp t nx w g' hp' t' nx' w') (hs : Sub t hp) {bl : Nat} (hb : bl < w.heap.size) (hf : ∀ id o, hp id = some o → (g id).b ≠ bl) :
    w'.heap[bl]? = w.heap[bl]? ∧ ∀ id o, hp' id = some o → (g' id).b ≠ bl := by
  refine ⟨h.un bl hb fun id o h1 _ => hf id o (hs id o h1), fun id o ho e => ?_⟩
  rcases Nat.lt_or_ge id.num nx.num with hi | hi
  · have hg := h.ext id hi
    cases ht : B.get id t with
    | none =>
      have := h.fr id hi ht
      rw [ho] at this
      exact hf id o this.symm (by rw [← hg]; exact e)
    | some o' => exact hf id o' (hs id o' ht) (by rw [← hg]; exact e)
  · rcases h.pl2 id o ho hi with h1 | ⟨id0, o0, h1, h2⟩
    · omega
    · exact hf id0 o0 (hs id0 o0 h1) (h2.trans e)

/-- What is known of some temporaries only. -/
noncomputable def restr (env : Tr V) : List Nat → Tr V
  | [] => .lf
  | t :: l => (bOf t).put (restr env l) ((bOf t).get env)
theorem get_restr (env : Tr V) : ∀ (l : List Nat) (t : Nat), (bOf t).get (restr env l) = if t ∈ l then (bOf t).get env else none
  | [], t => by simp [restr, B.get_lf]
  | s :: l, t => by
    rw [restr, B.get_put, get_restr env l t]
    by_cases h : t = s
    · subst h; simp
    · rw [if_neg (fun e => h (bOf_inj e))]
      simp [h]
theorem opV_restr {env : Tr V} {l : List Nat} {x : Operand} (h : ∀ t, x = .tmp t → t ∈ l) : opV ng (restr env l) x = opV ng env x := by
  cases x with
  | tmp t => simp only [opV, get_restr, if_pos (h t rfl)]
  | _ => rfl
theorem opVs_restr {env : Tr V} {l : List Nat} : ∀ {xs : List Operand}, (∀ t, Operand.tmp t ∈ xs → t ∈ l) → xs.map (opV ng (restr env l)) = xs.map (opV ng env)
  | [], _ => rfl
  | x :: xs, h => by rw [List.map_cons, List.map_cons, opV_restr (fun t e => h t (by simp [e])), opVs_restr fun t ht => h t (by simp [ht])]
theorem wd_restr {env : Tr V} {o : Oper} {b : Bool} (h : Wd ops ng env o b) : Wd ops ng (restr env (looksF ops o)) o b := by
  unfold Wd at h ⊢
  cases hg : o.guard with
  | none => rw [hg] at h; exact h
  | some p =>
    obtain ⟨j, want⟩ := p
    rw [hg] at h
    obtain ⟨oj, d, h1, h2, h3⟩ := h
    refine ⟨oj, d, h1, h2, ?_⟩
    rw [opV_restr (fun t e => by cases e; simp [looksF, gdst, hg, h1, h2])]
    exact h3
theorem opnds_restr {env : Tr V} {o : Oper} : (opnds o.op).map (opV ng (restr env (looksF ops o))) = (opnds o.op).map (opV ng env) :=
  opVs_restr fun t ht => by simp [looksF, mem_tmpsOf ht]
end
end Go.Sim

/- Sim: regions whose order is drawn: from the check to what is owed. -/
namespace Go.Sim
open Go Go.RowKit
open Go.Abs (TE TK SK TOK TFacts patch size_patch patch_in patch_out)

section
variable {P : Program} {T : Nat → TE} {w0 : World} {ng nt : Nat} {ops : List Oper} {ms : List Nat} {rs : List Rec} {E : Nat → Tr V} {H : Nat → Tr Obj × B} {hn : Nat → List (Tr Obj × B)} {b : Nat → Bool} {v : Nat → V}

/-- What is known of an activation, as far as an operation looks. -/
theorem Inv.ar (hC : Can P T w0 ng nt ops ms rs E H hn b v) {g0 : Gh} {hp0 : B → Option Obj} {wS : World} {listed : Array Bool} {a : Act} {w : World} {r : Nat} {g : Gh} {hp : B → Option Obj} {bl : Nat → Nat}
    (hI : Inv T w0 ng nt ops rs E H v g0 hp0 wS listed a w r g hp bl) {p : Nat} {x : Rec} (hx : rs[p]? = some x) (hun : ¬ Lk listed x.k) (hmask : ∀ i, x.mask.testBit i = true → Lk listed i)
    (hlz : ∀ (j : Nat) y t, j < p → rs[j]? = some y → y.cl = 1 → y.o.dst = some t → t ∈ x.looks → j < r) : AR g (H r).2.num nt (restr (E p) (looksF ops x.o)) a := by
  have hp : p < rs.length := (List.getElem?_eq_some_iff.1 hx).1
  obtain ⟨_, hlk, hf⟩ := hC.tf p x hx
  refine ⟨hI.defers, hI.tsize, fun t u hg => ?_⟩
  rw [get_restr] at hg
  split at hg
  · rename_i ht
    rw [← hlk] at ht
    refine hI.env p (by omega) (fun y hy => by rw [hx] at hy; cases hy; exact hun) t (fun y hy => by rw [hx] at hy; cases hy; exact ht) (fun j y hj hy hd => ⟨?_, fun hc => hlz j y t hj hy hc hd ht⟩) u hg
    rcases (hC.pr hj hy hx).2.1 with h | ⟨h, _, _⟩
    · exact hmask _ h
    · exact absurd ht (h t hd)
  · cases hg

/-- What looks at a lazy one stands behind the next operation of the chain. -/
theorem Can.lz (hC : Can P T w0 ng nt ops ms rs E H hn b v) {j p t : Nat} {x y : Rec} (hj : j < p) (hy : rs[j]? = some y) (hx : rs[p]? = some x) (hc : y.cl = 1) (hd : y.o.dst = some t) (ht : t ∈ x.looks) :
    ∃ q c, j < q ∧ q ≤ p ∧ rs[q]? = some c ∧ c.cl = 2 ∧ (q = p ∨ inMask c.k x = true) := by
  have key : ∀ (l : List Rec), onesOk l = true → ∀ (i : Nat) z, l[i]? = some z → oneOk z (l.drop (i + 1)) = true := by
    intro l
    induction l with
    | nil => intro _ i z h; simp at h
    | cons z0 l ih =>
      intro h i z hz
      simp only [onesOk, Bool.and_eq_true] at h
      cases i with
      | zero => simp at hz; subst hz; simpa using h.1
      | succ i => simpa using ih h.2 i z (by simpa using hz)
  have h1 := key rs hC.ones j y hy
  unfold oneOk at h1
  rw [hc] at h1
  simp only [hd, Bool.and_eq_true] at h1
  obtain ⟨_, h2, _⟩ := h1
  have hx' : (rs.drop (j + 1))[p - (j + 1)]? = some x := by rw [List.getElem?_drop, show j + 1 + (p - (j + 1)) = p by omega]; exact hx
  rcases zOk_spec h2 (p - (j + 1)) x hx' ht with ⟨w, e, _⟩ | ⟨w, c, h3, h4, h5, h6⟩
  · cases e
  · rw [List.getElem?_drop] at h4
    exact ⟨j + 1 + w, c, by omega, by omega, h4, h5, h6.imp (by omega) id⟩
theorem Can.one (hC : Can P T w0 ng nt ops ms rs E H hn b v) {p : Nat} {x : Rec} (hx : rs[p]? = some x) : (x.cl = 0 → isQ x.o.op = true) ∧ (x.cl = 1 → x.o.guard = none ∧ ∃ d, x.o.dst = some d) := by
  have key : ∀ (l : List Rec), onesOk l = true → ∀ (i : Nat) z, l[i]? = some z → oneOk z (l.drop (i + 1)) = true := by
    intro l
    induction l with
    | nil => intro _ i z h; simp at h
    | cons z0 l ih =>
      intro h i z hz
      simp only [onesOk, Bool.and_eq_true] at h
      cases i with
      | zero => simp at hz; subst hz; simpa using h.1
      | succ i => simpa using ih h.2 i z (by simpa using hz)
  have h1 := key rs hC.ones p x hx
  unfold oneOk at h1
  refine ⟨fun hc => by rw [hc] at h1; exact h1, fun hc => ?_⟩
  rw [hc] at h1
  cases hd : x.o.dst with
  | none => simp [hd] at h1
  | some d =>
    simp only [Bool.and_eq_true] at h1
    exact ⟨by simpa using h1.1.2, d, rfl⟩

theorem Lk_set_of {listed : Array Bool} {k j : Nat} (h : Lk listed j) : Lk (listed.setIfInBounds k true) j := by
  unfold Lk at *
  exact getD_set_true h

/-- Behind an operation that is not lazy and leaves no more than 'u'; the region told of goes on to r'. -/
theorem Inv.put (hC : Can P T w0 ng nt ops ms rs E H hn b v) {g0 : Gh} {hp0 : B → Option Obj} {wS : World} {listed : Array Bool} {a : Act} {w : World} {r : Nat} {g : Gh} {hp : B → Option Obj} {bl : Nat → Nat}
    (hI : Inv T w0 ng nt ops rs E H v g0 hp0 wS listed a w r g hp bl) {p : Nat} {x : Rec} (hx : rs[p]? = some x) (hk : x.k < listed.size) (hun : ¬ Lk listed x.k) (hmask : ∀ i, x.mask.testBit i = true → Lk listed i) (hcl : Closed ops (Lk (listed.setIfInBounds x.k true)))
    (hnz : x.cl ≠ 1) {r' : Nat} {g' : Gh} {hp' : B → Option Obj} {w' : World} (hr : (x.cl = 2 ∧ r = p ∧ r' = p + 1) ∨ (x.cl ≠ 2 ∧ r' = r)) (st : Step T w0 ng g hp (H r).1 (H r).2 w g' hp' (H r').1 (H r').2 w') {u : Value} (hu : RV g' (H r').2.num (v p) u) :
    Inv T w0 ng nt ops rs E H v g0 hp0 wS (listed.setIfInBounds x.k true) (a.put x.o.dst u) w' r' g' hp' bl := by
  have hpN : p < rs.length := (List.getElem?_eq_some_iff.1 hx).1
  obtain ⟨hmk, hlk, hf⟩ := hC.tf p x hx
  have hd : ∀ d, x.o.dst = some d → d < nt := hC.hd x.o (List.mem_of_getElem? hf.at_)
  have hrp : r ≤ p := by
    rcases Nat.lt_or_ge p r with h | h
    · exact absurd (hI.low p x h hx) hun
    · exact h
  have same : ∀ (j : Nat) y, rs[j]? = some y → y.k = x.k → j = p := fun j y hy e => by
    rcases Nat.lt_trichotomy j p with h1 | h1 | h1
    · exact absurd e (hC.pr h1 hy hx).1
    · exact h1
    · exact absurd e.symm (hC.pr h1 hx hy).1
  have old : ∀ (j : Nat) y, rs[j]? = some y → j ≠ p → Lk (listed.setIfInBounds x.k true) y.k → Lk listed y.k := fun j y hy hj h => by
    rcases (Lk_set hk).1 h with h | h
    · exact absurd (same j y hy h) hj
    · exact h
  have hrr : r ≤ r' := by rcases hr with ⟨_, h1, h2⟩ | ⟨_, h1⟩ <;> omega
  have hr'N : r' ≤ rs.length := by
    have := hI.rN
    rcases hr with ⟨_, h1, h2⟩ | ⟨_, h1⟩ <;> omega
  have between : ∀ (j : Nat) y, rs[j]? = some y → r ≤ j → j < r' → j = p ∧ x.cl = 2 := fun j y hy h1 h2 => by
    rcases hr with ⟨h0, h3, h4⟩ | ⟨_, h3⟩
    · exact ⟨by omega, h0⟩
    · omega
  refine ⟨hr'N, by simpa using hI.size, hcl, fun j y hj hy => ?_, fun j y hj hy hc h => ?_, hI.step.trans st, ?_, ?_, ?_, fun j y hj hy hc hl => ?_, fun j j' y y' h1 h2 h3 h4 h5 h6 h7 h8 h9 => ?_⟩
  · rcases Nat.lt_or_ge j r with h | h
    · exact Lk_set_of (hI.low j y h hy)
    · obtain ⟨rfl, _⟩ := between j y hy h hj
      rw [hx] at hy; cases hy
      exact (Lk_set hk).2 (.inl rfl)
  · by_cases e : j = p
    · subst e
      rw [hx] at hy; cases hy
      rcases hr with ⟨_, h1, h2⟩ | ⟨h0, _⟩
      · omega
      · exact h0 hc
    · exact hI.high j y (by omega) hy hc (old j y hy e h)
  · simpa [Act.put] using (show (a.put x.o.dst u).defers = [] by cases x.o.dst <;> simpa [Act.put] using hI.defers)
  · cases x.o.dst <;> simpa [Act.put] using hI.tsize
  · refine env_put hC (r := r) (fun p hp hu t ht hw u hg => (hI.env p hp hu t ht hw u hg).mono st.ext st.le) hI.tsize hx hk hun hmask (fun j y hy hl => closed_mask hC hI.closed j y hy hl) hd hu fun j y hy hc hj => ?_
    rcases Nat.lt_or_ge j r with h | h
    · exact h
    · obtain ⟨rfl, h2⟩ := between j y hy h hj
      rw [hx] at hy; cases hy
      omega
  · have hjp : j ≠ p := fun e => by subst e; rw [hx] at hy; cases hy; exact hnz hc
    have hpd := hI.pend j y (by omega) hy hc (old j y hy hjp hl)
    obtain ⟨q1, q2⟩ := st.apart hI.step.sub hpd.hi hpd.free
    refine hpd.keep st.sz q1 q2 st.ext st.le fun d hdy => (get_put hI.tsize hd u d).2 fun e => ?_
    rcases Nat.lt_trichotomy j p with h1 | h1 | h1
    · exact (hC.pr h1 hy hx).2.2.2 (.inl hc) d hdy e
    · exact hjp h1
    · exact (hC.pr h1 hx hy).2.2.2 (.inr hc) d e hdy
  · have hjp : j ≠ p := fun e => by subst e; rw [hx] at h3; cases h3; exact hnz h5
    have hjp' : j' ≠ p := fun e => by subst e; rw [hx] at h4; cases h4; exact hnz h6
    exact hI.dist j j' y y' (by omega) (by omega) h3 h4 h5 h6 (old j y h3 hjp h7) (old j' y' h4 hjp' h8) h9

/-- Behind a lazy operation. -/
theorem Inv.lazy (hC : Can P T w0 ng nt ops ms rs E H hn b v) {g0 : Gh} {hp0 : B → Option Obj} {wS : World} {listed : Array Bool} {a : Act} {w : World} {r : Nat} {g : Gh} {hp : B → Option Obj} {bl : Nat → Nat}
    (hI : Inv T w0 ng nt ops rs E H v g0 hp0 wS listed a w r g hp bl) {p : Nat} {x : Rec} (hx : rs[p]? = some x) (hk : x.k < listed.size) (hun : ¬ Lk listed x.k) (hmask : ∀ i, x.mask.testBit i = true → Lk listed i) (hcl : Closed ops (Lk (listed.setIfInBounds x.k true)))
    (hz : x.cl = 1) {u : Value} {ob : Go.Obj}
    (hreg : ∀ g1 hp1 w1, HR T w0 ng g1 hp1 (H p).2 w1 → Sub (H p).1 hp1 → Ext g g1 (H r).2.num → (H r).2.num ≤ (H p).2.num → w1.heap[w.heap.size]? = some ob → w0.heap.size ≤ w.heap.size → (∀ id o, hp1 id = some o → (g1 id).b ≠ w.heap.size) →
      ∃ g' hp', Reg T w0 ng w.heap.size g1 hp1 (H p).1 (H p).2 w1 g' hp' (H (p + 1)).1 (H (p + 1)).2 ∧ RV g' (H (p + 1)).2.num (v p) u) :
    Inv T w0 ng nt ops rs E H v g0 hp0 wS (listed.setIfInBounds x.k true) (a.put x.o.dst u) (w.alloc ob) r g hp (fun q => if q = p then w.heap.size else bl q) := by
  have hpN : p < rs.length := (List.getElem?_eq_some_iff.1 hx).1
  obtain ⟨hmk, hlk, hf⟩ := hC.tf p x hx
  have hd : ∀ d, x.o.dst = some d → d < nt := hC.hd x.o (List.mem_of_getElem? hf.at_)
  obtain ⟨_, d, hdx⟩ := (hC.one hx).2 hz
  have hrp : r ≤ p := by
    rcases Nat.lt_or_ge p r with h | h
    · exact absurd (hI.low p x h hx) hun
    · exact h
  have same : ∀ (j : Nat) y, rs[j]? = some y → y.k = x.k → j = p := fun j y hy e => by
    rcases Nat.lt_trichotomy j p with h1 | h1 | h1
    · exact absurd e (hC.pr h1 hy hx).1
    · exact h1
    · exact absurd e.symm (hC.pr h1 hx hy).1
  have old : ∀ (j : Nat) y, rs[j]? = some y → j ≠ p → Lk (listed.setIfInBounds x.k true) y.k → Lk listed y.k := fun j y hy hj h => by
    rcases (Lk_set hk).1 h with h | h
    · exact absurd (same j y hy h) hj
    · exact h
  have hnew : (w.alloc ob).heap[w.heap.size]? = some ob := heap_alloc_new w _
  have hold : ∀ b, b < w.heap.size → (w.alloc ob).heap[b]? = w.heap[b]? := fun b hb => heap_alloc_old w _ b hb
  have st : Step T w0 ng g hp (H r).1 (H r).2 w g hp (H r).1 (H r).2 (w.alloc ob) := .idle hI.step.hr hI.step.sub (like_alloc w ob) hold
  have hfree : ∀ id o, hp id = some o → (g id).b ≠ w.heap.size := fun id o ho => by
    have hob := (hI.step.hr.obj id o ho).2
    cases o with
    | blk ro sz hi cs =>
      obtain ⟨cur, Tb, fz, h1, _⟩ := hob
      have := (Array.getElem?_eq_some_iff.1 h1).1
      omega
    | map kt es =>
      obtain ⟨ents, clock, h1, _⟩ := hob
      have := (Array.getElem?_eq_some_iff.1 h1).1
      omega
  refine ⟨hI.rN, by simpa using hI.size, hcl, fun j y hj hy => Lk_set_of (hI.low j y hj hy), fun j y hj hy hc h => ?_, hI.step.trans st, ?_, ?_, fun q hq hqu t ht hw u' hg => ?_, fun j y hj hy hc hl => ?_, fun j j' y y' h1 h2 h3 h4 h5 h6 h7 h8 h9 => ?_⟩
  · have hjp : j ≠ p := fun e => by subst e; rw [hx] at hy; cases hy; omega
    exact hI.high j y hj hy hc (old j y hy hjp h)
  · cases x.o.dst <;> simpa [Act.put] using hI.defers
  · cases x.o.dst <;> simpa [Act.put] using hI.tsize
  · -- nobody looks yet
    have hqu' : ∀ y, rs[q]? = some y → ¬ Lk listed y.k := fun y hy h => hqu y hy (Lk_set_of h)
    have hqp : q ≠ p := fun e => by subst e; exact hqu x hx ((Lk_set hk).2 (.inl rfl))
    have hne : x.o.dst ≠ some t := fun e => by
      rcases Nat.lt_or_ge p q with h | h
      · have := (hw p x h hx e).2 hz
        omega
      · have hlt : q < p := by omega
        have hp2 : rs[q]? = some rs[q] := List.getElem?_eq_getElem (by omega)
        rcases (hC.pr hlt hp2 hx).2.1 with h | ⟨_, _, h⟩
        · exact hqu' _ hp2 (hmask _ h)
        · exact h t e (ht _ hp2)
    rw [(get_put hI.tsize hd u t).2 hne]
    refine hI.env q hq hqu' t ht (fun j y hj hy hdy => ⟨?_, (hw j y hj hy hdy).2⟩) u' hg
    have hjp : j ≠ p := fun e => by subst e; rw [hx] at hy; cases hy; exact hne hdy
    exact old j y hy hjp (hw j y hj hy hdy).1
  · by_cases hjp : j = p
    · subst hjp
      rw [hx] at hy; cases hy
      simp only [if_true]
      refine ⟨hI.step.sz, by simp, hfree, d, ob, g, (H r).2.num, hdx, hnew, .refl _ _, Nat.le_refl _, fun g1 hp1 w1 e1 e2 e3 e4 e5 e6 => ?_⟩
      obtain ⟨g', hp', q1, q2⟩ := hreg g1 hp1 w1 e1 e2 e3 e4 e5 hI.step.hr.size e6
      exact ⟨g', hp', q1, by rw [(get_put hI.tsize hd u d).1 hdx]; exact q2⟩
    · simp only [if_neg hjp]
      have hpd := hI.pend j y hj hy hc (old j y hy hjp hl)
      refine hpd.keep (by simp) (hold _ hpd.hi) hpd.free (.refl _ _) (Nat.le_refl _) fun d' hdy => (get_put hI.tsize hd u d').2 fun e => ?_
      rcases Nat.lt_trichotomy j p with h1 | h1 | h1
      · exact (hC.pr h1 hy hx).2.2.2 (.inl hc) d' hdy e
      · exact hjp h1
      · exact (hC.pr h1 hx hy).2.2.2 (.inr hc) d' e hdy
  · by_cases e1 : j = p
    · have e2 : j' ≠ p := by omega
      have := (hI.pend j' y' h2 h4 h6 (old j' y' h4 e2 h8)).hi
      rw [if_pos e1, if_neg e2]; omega
    · by_cases e2 : j' = p
      · have := (hI.pend j y h1 h3 h5 (old j y h3 e1 h7)).hi
        rw [if_neg e1, if_pos e2]; omega
      · rw [if_neg e1, if_neg e2]
        exact hI.dist j j' y y' h1 h2 h3 h4 h5 h6 (old j y h3 e1 h7) (old j' y' h4 e2 h8) h9
end
end Go.Sim
