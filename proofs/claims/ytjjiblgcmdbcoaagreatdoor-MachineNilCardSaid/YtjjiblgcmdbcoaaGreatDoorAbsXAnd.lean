/- Equality of structs of plain cells, keys of maps. -/
import Derived.Test.YtjjiblgcmdbcoaaGreatDoorAbsAAnd
import Derived.Laws.Strings
import Derived.Laws.StructEq
set_option linter.unusedVariables false
set_option linter.unusedSimpArgs false
namespace Go.Abs
open Go Go.RowKit

def whenB (b : Bool) (p : Prop) : Prop := match b with | true => p | false => False
theorem whenB_spec {b : Bool} {p : Prop} (h : whenB b p) : b = true ∧ p := by cases b <;> first | exact ⟨rfl, h⟩ | exact h.elim

def fit1 : SK → D → Bool
  | .b, .bool _ => true
  | .i k, .int k' _ => match decEq k k' with | .isTrue _ => true | .isFalse _ => false
  | .s, .str _ => true
  | _, _ => false

theorem fit1_int {k k' : IntKind} {n : Int} (h : fit1 (.i k) (.int k' n) = true) : k = k' := by
  have h' : (match decEq k k' with | .isTrue _ => true | .isFalse _ => false) = true := h
  split at h'
  · assumption
  · cases h'

def fitB : List SK → List D → Bool
  | [], [] => true
  | k :: ks, c :: cs => match fit1 k c with | true => fitB ks cs | false => false
  | _, _ => false

def eq1 : D → D → Bool
  | .bool a, .bool b => a == b
  | .int _ a, .int _ b => a == b
  | .str a, .str b => a == b
  | _, _ => false

def eqCells : List D → List D → Bool
  | [], [] => true
  | [x], [y] => eq1 x y
  | x :: xs, y :: ys => eq1 x y && eqCells xs ys
  | _, _ => false

theorem eqCells_cons (x y : D) (xs ys : List D) (h : xs.length = ys.length) : eqCells (x :: xs) (y :: ys) = (eq1 x y && eqCells xs ys) := by
  cases xs <;> cases ys <;> simp_all [eqCells]

theorem eqCells_append : ∀ (xs ys xs' ys' : List D), xs.length = ys.length → xs'.length = ys'.length → eqCells (xs ++ xs') (ys ++ ys') = (eqCells xs ys && eqCells xs' ys')
  | [], [], xs', ys', _, _ => by simp [eqCells]
  | x :: xs, y :: ys, xs', ys', h, h' => by
    rw [List.cons_append, List.cons_append, eqCells_cons x y _ _ (by simp at h ⊢; omega), eqCells_cons x y xs ys (by simpa using h), eqCells_append xs ys xs' ys' (by simpa using h) h', Bool.and_assoc]
  | [], _ :: _, _, _, h, _ => by simp at h
  | _ :: _, [], _, _, h, _ => by simp at h

theorem fitB_length : ∀ {ks : List SK} {cs : List D}, fitB ks cs = true → cs.length = ks.length
  | [], [], _ => rfl
  | k :: ks, c :: cs, h => by
    unfold fitB at h
    split at h
    · simp [fitB_length h]
    · cases h
  | [], _ :: _, h => by simp [fitB] at h
  | _ :: _, [], h => by simp [fitB] at h

theorem fitB_append : ∀ {ks ks' : List SK} {cs : List D}, fitB (ks ++ ks') cs = true → fitB ks (cs.take ks.length) = true ∧ fitB ks' (cs.drop ks.length) = true
  | [], ks', cs, h => by simpa [fitB] using h
  | k :: ks, ks', c :: cs, h => by
    simp only [List.cons_append, fitB] at h ⊢
    split at h
    · rename_i h1
      simp only [List.length_cons, List.take_succ_cons, List.drop_succ_cons, fitB, h1]
      exact fitB_append h
    · cases h
  | _ :: _, _, [], h => by simp [fitB] at h

section
variable {P : Program}

/-- Two values of a type, read cell by cell. -/
def Shape (P : Program) (t : Nat) (x : D) : Prop := x.one = !(aggB P t)

theorem isAgg_run {t : Nat} {d : TypeDesc} (hu : P.underlying t = some d) (w : World) : (isAgg t).run P w = .ok (aggB P t) w := by
  unfold aggB
  rw [hu]
  cases d <;> simp [isAgg, run_underlying hu]

theorem RdD.takeAgg {ok : Nat → Prop} {w : World} {xs : Array Value} {cs : List D} (h : RdD ok w (.agg xs) (.agg cs)) (off n : Nat) (hn : off + n ≤ cs.length) : RdD ok w (.agg (xs.extract off (off + n))) (.agg ((cs.drop off).take n)) := by
  cases h with
  | agg _ _ h1 h2 h3 =>
    have key : ∀ (i : Nat) v c, (xs.extract off (off + n))[i]? = some v → ((cs.drop off).take n)[i]? = some c → xs[off + i]? = some v ∧ cs[off + i]? = some c := fun i v c hv hc => by
      have hi : i < n := by
        have := (List.getElem?_eq_some_iff.1 hc).1
        simp at this; omega
      rw [List.getElem?_take_of_lt hi, List.getElem?_drop] at hc
      refine ⟨?_, hc⟩
      rw [Array.getElem?_extract] at hv
      split at hv
      · exact hv
      · cases hv
    refine .agg _ _ ?_ (fun i v c hv hc => h2 _ v c (key i v c hv hc).1 (key i v c hv hc).2) (fun i v c hv hc => h3 _ v c (key i v c hv hc).1 (key i v c hv hc).2)
    simp
    omega

/-- A part of a struct. -/
theorem run_partD {e : Nat} {d : TypeDesc} (hu : P.underlying e = some d) {n : Nat} (hs : P.cellsOf e = n) {ok : Nat → Prop} {w : World} {xs : Array Value} {cs : List D} (h : RdD ok w (.agg xs) (.agg cs)) {off : Nat} (hn : off + n ≤ cs.length) (h1 : aggB P e = false → n = 1) :
    ∃ v x, (part e xs off).run P w = .ok v w ∧ RdD ok w v x ∧ x.cells = (cs.drop off).take n ∧ Shape P e x := by
  obtain ⟨i, hi⟩ : ∃ i, P.info? e = some i := by
    unfold Program.underlying at hu
    cases hi : P.info? e with
    | none => simp [hi] at hu
    | some i => exact ⟨i, rfl⟩
  cases ha : aggB P e with
  | true =>
    refine ⟨.agg (xs.extract off (off + n)), .agg ((cs.drop off).take n), ?_, h.takeAgg off n hn, rfl, by simp [Shape, ha, D.one]⟩
    have hz : (sizeOf e).run P w = .ok n w := by rw [run_sizeOf w hi, hs]
    simp [part, isAgg_run hu, ha, hz]
  | false =>
    have hn1 := h1 ha
    subst hn1
    cases h with
    | agg _ _ q1 q2 q3 =>
      have hc : cs[off]? = some cs[off] := by simp
      have hx : xs[off]? = some xs[off] := by simp
      have o1 := (q3 off _ _ hx hc).2
      refine ⟨xs[off], cs[off], ?_, q2 off _ _ hx hc, ?_, by simp [Shape, ha, o1]⟩
      · simp [part, isAgg_run hu, ha, hx]
      · have : (cs.drop off).take 1 = [cs[off]] := by rw [List.drop_eq_getElem_cons (by omega)]; rfl
        rw [this]
        cases hcs : cs[off] <;> rw [hcs] at o1 <;> first | rfl | cases o1

theorem skOf_agg : ∀ {m t : Nat} {ks : List SK}, skOf P m t = some ks → aggB P t = false → ks.length = 1
  | 0, _, _, h, _ => by simp [skOf] at h
  | m + 1, t, ks, h, ha => by
    unfold skOf at h
    unfold aggB at ha
    cases hu : P.underlying t with
    | none => rw [hu] at h; cases h
    | some d =>
      rw [hu] at h ha
      cases d <;> simp at h ha <;> first | (subst h; rfl) | exact absurd h id

theorem skOf_und {m t : Nat} {ks : List SK} (h : skOf P m t = some ks) : ∃ d, P.underlying t = some d := by
  cases m with
  | zero => simp [skOf] at h
  | succ m =>
    unfold skOf at h
    cases hu : P.underlying t with
    | none => rw [hu] at h; cases h
    | some d => exact ⟨d, rfl⟩

/-- Two values of a type of plain keys are compared cell by cell. -/
def EqOK (P : Program) (n t : Nat) (ks : List SK) : Prop := ∀ (ok : Nat → Prop) (w : World) (vx vy : Value) (x y : D), RdD ok w vx x → RdD ok w vy y → Shape P t x → Shape P t y → fitB ks x.cells = true → fitB ks y.cells = true →
  (Op.equalIn n t vx vy).run P w = .ok (eqCells x.cells y.cells) w ∧ ∀ em, (Instr.checkKey em n t vx).run P w = .ok () w

theorem run_eqFieldsD {n : Nat} {rec : Nat → Option (List SK)} (hrec : ∀ t ks, rec t = some ks → EqOK P n t ks ∧ (∃ d, P.underlying t = some d) ∧ (aggB P t = false → ks.length = 1)) {ok : Nat → Prop} {w : World} {xs ys : Array Value} {cx cy : List D}
    (hx : RdD ok w (.agg xs) (.agg cx)) (hy : RdD ok w (.agg ys) (.agg cy)) : ∀ (fs : List Field) (off : Nat) (ks : List SK), skFs P rec fs off = some ks → off ≤ cx.length → off ≤ cy.length → fitB ks (cx.drop off) = true → fitB ks (cy.drop off) = true →
    (Op.eqFields n xs ys fs).run P w = .ok (eqCells (cx.drop off) (cy.drop off)) w
  | [], off, ks, h, ox, oy, fx, fy => by
    simp [skFs] at h
    subst h
    have e1 : cx.drop off = [] := by have := fitB_length fx; simp at this; simpa using (by omega : cx.length ≤ off)
    have e2 : cy.drop off = [] := by have := fitB_length fy; simp at this; simpa using (by omega : cy.length ≤ off)
    rw [e1, e2]
    simp [Op.eqFields, eqCells]
  | f :: fs, off, ks, h, ox, oy, fx, fy => by
    unfold skFs at h
    split at h
    · cases h
    rename_i hname
    split at h
    case isFalse => cases h
    rename_i hoff
    split at h
    case h_2 => cases h
    rename_i k1 hk1
    split at h
    case isFalse => cases h
    rename_i hsz
    simp only [Option.map_eq_some_iff] at h
    obtain ⟨k2, hk2, rfl⟩ := h
    obtain ⟨heq, ⟨d, hu⟩, hag⟩ := hrec _ _ hk1
    have lx := fitB_length fx
    have ly := fitB_length fy
    simp only [List.length_append, List.length_drop] at lx ly
    obtain ⟨f1, f2⟩ := fitB_append fx
    obtain ⟨g1, g2⟩ := fitB_append fy
    obtain ⟨a, da, p1, p2, p3, p4⟩ := run_partD hu hsz hx (off := off) (by omega) hag
    obtain ⟨b, db, q1, q2, q3, q4⟩ := run_partD hu hsz hy (off := off) (by omega) hag
    have := (heq ok w a b da db p2 q2 p4 q4 (by rw [p3]; exact f1) (by rw [q3]; exact g1)).1
    rw [List.drop_drop] at f2 g2
    have ih := run_eqFieldsD hrec hx hy fs (off + k1.length) k2 hk2 (by omega) (by omega) f2 g2
    have el : ∀ (c : List D), c.length - off = k1.length + k2.length → c.drop off = (c.drop off).take k1.length ++ c.drop (off + k1.length) := fun c _ => by rw [← List.drop_drop, List.take_append_drop]
    rw [el cx lx, el cy ly, eqCells_append _ _ _ _ (by simp; omega) (by simp; omega)]
    simp only [Op.eqFields, hname, ne_eq, not_false_eq_true, if_true, Sem.run_bind, hoff, p1, q1, Result.andThen_ok, this, p3, q3]
    cases eqCells ((cx.drop off).take k1.length) ((cy.drop off).take k1.length)
    · simp
    · simp [ih]

theorem run_checkFieldsD {n : Nat} {em : Bool} {rec : Nat → Option (List SK)} (hrec : ∀ t ks, rec t = some ks → EqOK P n t ks ∧ (∃ d, P.underlying t = some d) ∧ (aggB P t = false → ks.length = 1)) {ok : Nat → Prop} {w : World} {xs : Array Value} {cx : List D}
    (hx : RdD ok w (.agg xs) (.agg cx)) : ∀ (fs : List Field) (off : Nat) (ks : List SK), skFs P rec fs off = some ks → off ≤ cx.length → fitB ks (cx.drop off) = true →
    ((forIn fs PUnit.unit fun f _ => if f.name ≠ "_" then do Instr.checkKey em n f.type (← part f.type xs f.offset); pure (ForInStep.yield PUnit.unit) else pure (ForInStep.yield PUnit.unit)) : Sem PUnit).run P w = .ok PUnit.unit w
  | [], off, ks, h, ox, fx => by simp
  | f :: fs, off, ks, h, ox, fx => by
    have lx := fitB_length fx
    unfold skFs at h
    split at h
    · cases h
    rename_i hname
    split at h
    case isFalse => cases h
    rename_i hoff
    split at h
    case h_2 => cases h
    rename_i k1 hk1
    split at h
    case isFalse => cases h
    rename_i hsz
    simp only [Option.map_eq_some_iff] at h
    obtain ⟨k2, hk2, rfl⟩ := h
    obtain ⟨heq, ⟨d, hu⟩, hag⟩ := hrec _ _ hk1
    obtain ⟨f1, f2⟩ := fitB_append fx
    simp only [List.length_append, List.length_drop] at lx
    obtain ⟨a, da, p1, p2, p3, p4⟩ := run_partD hu hsz hx (off := off) (by omega) hag
    have := (heq ok w a a da da p2 p2 p4 p4 (by rw [p3]; exact f1) (by rw [p3]; exact f1)).2 em
    rw [List.drop_drop] at f2
    have ih := run_checkFieldsD (em := em) hrec hx fs (off + k1.length) k2 hk2 (by omega) f2
    simp only [List.forIn_cons, hname, ne_eq, not_false_eq_true, if_true, Sem.run_bind, hoff, p1, Result.andThen_ok, this, Sem.run_pure]
    exact ih

def aggD : TypeDesc → Bool
  | .struct _ | .array _ _ => true
  | _ => false

theorem eqOK_skOf (d : Nat) : ∀ (m t : Nat) (ks : List SK), skOf P m t = some ks → EqOK P (d + m) t ks
  | 0, _, _, h => by simp [skOf] at h
  | m + 1, t, ks, h => by
    intro ok w vx vy x y hx hy sx sy fx fy
    have h0 := h
    unfold skOf at h
    cases hu : P.underlying t with
    | none => rw [hu] at h; cases h
    | some td =>
      rw [hu] at h
      have hagg : aggB P t = aggD td := by unfold aggB; rw [hu]; cases td <;> rfl
      cases td <;> simp only at h <;> try (cases h; done)
      case bool =>
        cases h
        simp only [Shape, hagg, aggD, Bool.not_false] at sx sy
        cases x <;> simp [D.one, D.cells, fitB, fit1] at sx fx
        cases y <;> simp [D.one, D.cells, fitB, fit1] at sy fy
        cases hx; cases hy
        refine ⟨?_, fun em => ?_⟩
        · show (Op.equalIn (d + m + 1) t _ _).run P w = _
          simp [Op.equalIn, run_underlying hu, D.cells, eqCells, eq1]
        · show (Instr.checkKey em (d + m + 1) t _).run P w = _
          simp [Instr.checkKey, run_underlying hu]
      case int k =>
        cases h
        simp only [Shape, hagg, aggD, Bool.not_false] at sx sy
        cases x <;> simp [D.one, D.cells, fitB] at sx fx <;> try (simp [fit1] at fx; done)
        cases y <;> simp [D.one, D.cells, fitB] at sy fy <;> try (simp [fit1] at fy; done)
        rename_i kx nx ky ny
        have ekx : k = kx := fit1_int (n := nx) (by split at fx; assumption; cases fx)
        have eky : k = ky := fit1_int (n := ny) (by split at fy; assumption; cases fy)
        subst ekx; subst eky
        cases hx; cases hy
        refine ⟨?_, fun em => ?_⟩
        · show (Op.equalIn (d + m + 1) t _ _).run P w = _
          simp [Op.equalIn, run_underlying hu, D.cells, eqCells, eq1]
        · show (Instr.checkKey em (d + m + 1) t _).run P w = _
          simp [Instr.checkKey, run_underlying hu]
      case string =>
        cases h
        simp only [Shape, hagg, aggD, Bool.not_false] at sx sy
        cases x <;> simp [D.one, D.cells, fitB, fit1] at sx fx
        cases y <;> simp [D.one, D.cells, fitB, fit1] at sy fy
        rename_i a b
        cases hx; cases hy
        have ea : (⟨a.toArray⟩ : ByteArray).toList = a := by rw [ByteArray.toList_eq]
        have eb : (⟨b.toArray⟩ : ByteArray).toList = b := by rw [ByteArray.toList_eq]
        refine ⟨?_, fun em => ?_⟩
        · show (Op.equalIn (d + m + 1) t _ _).run P w = _
          simp [Op.equalIn, run_underlying hu, D.cells, eqCells, eq1, beq_toListBytes, ea, eb]
        · show (Instr.checkKey em (d + m + 1) t _).run P w = _
          simp [Instr.checkKey, run_underlying hu]
      case struct fs =>
        split at h
        · cases h
        rename_i hst
        simp only [Shape, hagg, aggD, Bool.not_true] at sx sy
        cases x <;> simp [D.one] at sx
        cases y <;> simp [D.one] at sy
        rename_i cx cy
        cases vx <;> first | (cases hx; done) | skip
        cases vy <;> first | (cases hy; done) | skip
        rename_i xs ys
        have hfs : P.fieldsOf t = fs := by simp [Program.fieldsOf, hu]
        have hrec : ∀ t ks, skOf P m t = some ks → EqOK P (d + m) t ks ∧ (∃ d, P.underlying t = some d) ∧ (aggB P t = false → ks.length = 1) := fun t ks h => ⟨eqOK_skOf d m t ks h, skOf_und h, skOf_agg h⟩
        have key := run_eqFieldsD hrec hx hy fs.toList 0 ks h (by omega) (by omega) (by simpa [D.cells] using fx) (by simpa [D.cells] using fy)
        refine ⟨?_, fun em => ?_⟩
        · show (Op.equalIn (d + m + 1) t _ _).run P w = _
          rw [run_equalIn_struct w (d + m) t xs ys (by rw [hfs]; exact hu) (by simpa using hst), hfs]
          simpa [D.cells] using key
        · show (Instr.checkKey em (d + m + 1) t _).run P w = _
          have key2 := run_checkFieldsD (em := em) hrec hx fs.toList 0 ks h (by omega) (by simpa [D.cells] using fx)
          rw [Instr.checkKey]
          simp only [Sem.run_bind, run_underlying hu, Result.andThen_ok]
          rw [← Array.forIn_toList]
          simp at key2 ⊢
          rw [key2]
          rfl

end
end Go.Abs

/- Arithmetic, comparisons, conversions on pure data, and their runs. -/
namespace Go.Abs
open Go Go.RowKit

/-- A choice on a Bool; where the Bool is no literal the evaluation stops here. -/
def selB (b : Bool) (p q : Prop) : Prop := match b with | true => p | false => q
theorem selB_spec {b : Bool} {p q : Prop} (h : selB b p q) : (b = true ∧ p) ∨ (b = false ∧ q) := by cases b <;> first | exact .inl ⟨rfl, h⟩ | exact .inr ⟨rfl, h⟩

def sameK (k k' : IntKind) (p : Prop) : Prop := match decEq k k' with | .isTrue _ => p | .isFalse _ => False
theorem sameK_spec {k k' : IntKind} {p : Prop} (h : sameK k k' p) : k = k' ∧ p := by
  unfold sameK at h; split at h
  · exact ⟨by assumption, h⟩
  · exact h.elim

/-- A sum, a product: of int it must be in range; other kinds wrap. -/
def arith (k : IntKind) (n : Int) (K : Int → Prop) : Prop :=
  match k with
  | .i64 => (-9223372036854775808 ≤ n ∧ n ≤ 9223372036854775807) ∧ K n
  | k => K (k.wrap n)

theorem wrap_i64_in {n : Int} (h : -9223372036854775808 ≤ n ∧ n ≤ 9223372036854775807) : IntKind.i64.wrap n = n := by
  unfold IntKind.wrap
  simp [IntKind.bits, IntKind.signed]
  omega

theorem arith_spec {k : IntKind} {n : Int} {K : Int → Prop} (h : arith k n K) : K (k.wrap n) := by
  cases k <;> first | exact h | (obtain ⟨h1, h2⟩ := h; rw [wrap_i64_in h1]; exact h2)

def bitsOf (op : BinOp) (k : IntKind) (x y : Int) : Int :=
  let a := BitVec.ofInt k.bits x
  let b := BitVec.ofInt k.bits y
  match op with
  | .and => k.wrap (a &&& b).toNat
  | .or => k.wrap (a ||| b).toNat
  | .xor => k.wrap (a ^^^ b).toNat
  | _ => k.wrap (a &&& ~~~b).toNat

def binInt (op : BinOp) (k : IntKind) (a : Int) (k' : IntKind) (b : Int) (K : D → Prop) : Prop :=
  match op with
  | .shl => 0 ≤ b ∧ K (.int k (k.wrap (a * 2 ^ (min b.toNat k.bits))))
  | .shr => 0 ≤ b ∧ K (.int k (a.fdiv (2 ^ (min b.toNat k.bits))))
  | .add => sameK k k' (arith k (a + b) fun n => K (.int k n))
  | .sub => sameK k k' (arith k (a - b) fun n => K (.int k n))
  | .mul => sameK k k' (arith k (a * b) fun n => K (.int k n))
  | .quo => sameK k k' (b ≠ 0 ∧ arith k (a.tdiv b) fun n => K (.int k n))
  | .rem => sameK k k' (b ≠ 0 ∧ K (.int k (a.tmod b)))
  | .and | .or | .xor | .andNot => sameK k k' (K (.int k (bitsOf op k a b)))
  | .eql => sameK k k' (K (.bool (a == b)))
  | .neq => sameK k k' (K (.bool (a != b)))
  | .lss => sameK k k' (K (.bool (decide (a < b))))
  | .leq => sameK k k' (K (.bool (decide (a ≤ b))))
  | .gtr => sameK k k' (K (.bool (decide (a > b))))
  | .geq => sameK k k' (K (.bool (decide (a ≥ b))))

def binStr (op : BinOp) (a b : List UInt8) (K : D → Prop) : Prop :=
  match op with
  | .add => a.length + b.length ≤ maxLen ∧ K (.str (a ++ b))
  | .eql => K (.bool (a == b))
  | .neq => K (.bool (!(a == b)))
  | .lss => K (.bool (Op.bytesLess a b))
  | .leq => K (.bool (Op.bytesLess a b || a == b))
  | .gtr => K (.bool (!(Op.bytesLess a b || a == b)))
  | .geq => K (.bool (!Op.bytesLess a b))
  | _ => False

def binBool (op : BinOp) (a b : Bool) (K : D → Prop) : Prop :=
  match op with
  | .eql => K (.bool (a == b))
  | .neq => K (.bool (!(a == b)))
  | _ => False

/-- A pointer against nil. -/
def binNil (op : BinOp) (nil : Bool) (K : D → Prop) : Prop :=
  match op with
  | .eql => K (.bool nil)
  | .neq => K (.bool (!nil))
  | _ => False

section
variable {P : Program} {T : Nat → TE} {ok : Nat → Prop} {w : World}

theorem run_eqGuard_int (op : BinOp) (t : Nat) (x y : Operand) (k k' : IntKind) (a b : Int) : (eqGuard op t x y (.int k a) (.int k' b)).run P w = .ok () w := by
  cases op <;> rfl
theorem run_eqGuard_str (op : BinOp) (t : Nat) (x y : Operand) (a b : ByteArray) : (eqGuard op t x y (.string a) (.string b)).run P w = .ok () w := by
  cases op <;> rfl
theorem run_eqGuard_bool (op : BinOp) (t : Nat) (x y : Operand) (a b : Bool) : (eqGuard op t x y (.bool a) (.bool b)).run P w = .ok () w := by
  cases op <;> rfl
theorem run_eqGuard_ptr (op : BinOp) (t : Nat) (x y : Operand) (a b : Option Addr) : (eqGuard op t x y (.pointer a) (.pointer b)).run P w = .ok () w := by
  cases op <;> rfl

theorem run_binInt (op : BinOp) (t : Nat) (k k' : IntKind) (a b : Int) {K : D → Prop} (h : binInt op k a k' b K) :
    ∃ d v, (binOp op t (.int k a) (.int k' b)).run P w = .ok v w ∧ RdD ok w v d ∧ K d := by
  cases op with
  | shl =>
    have hb : ¬ b < 0 := by have := h.1; omega
    exact ⟨_, .int k (k.wrap (a * 2 ^ (min b.toNat k.bits))), by simp [binOp, Op.shift, hb], .int _ _, h.2⟩
  | shr =>
    have hb : ¬ b < 0 := by have := h.1; omega
    exact ⟨_, .int k (a.fdiv (2 ^ (min b.toNat k.bits))), by simp [binOp, Op.shift, hb], .int _ _, h.2⟩
  | add =>
    obtain ⟨hk, h'⟩ := sameK_spec h; subst hk
    exact ⟨.int k (k.wrap (a + b)), .int k (k.wrap (a + b)), by simp [binOp, Op.intArith], .int _ _, arith_spec h'⟩
  | sub =>
    obtain ⟨hk, h'⟩ := sameK_spec h; subst hk
    exact ⟨.int k (k.wrap (a - b)), .int k (k.wrap (a - b)), by simp [binOp, Op.intArith], .int _ _, arith_spec h'⟩
  | mul =>
    obtain ⟨hk, h'⟩ := sameK_spec h; subst hk
    exact ⟨.int k (k.wrap (a * b)), .int k (k.wrap (a * b)), by simp [binOp, Op.intArith], .int _ _, arith_spec h'⟩
  | quo =>
    obtain ⟨hk, h'⟩ := sameK_spec h; subst hk
    exact ⟨.int k (k.wrap (a.tdiv b)), .int k (k.wrap (a.tdiv b)), by simp [binOp, Op.intDiv, h'.1], .int _ _, arith_spec h'.2⟩
  | rem =>
    obtain ⟨hk, h'⟩ := sameK_spec h; subst hk
    exact ⟨_, .int k (a.tmod b), by simp [binOp, Op.intDiv, h'.1], .int _ _, h'.2⟩
  | and =>
    obtain ⟨hk, h'⟩ := sameK_spec h; subst hk
    exact ⟨_, .int k (bitsOf .and k a b), by simp [binOp, Op.intBits, bitsOf], .int _ _, h'⟩
  | or =>
    obtain ⟨hk, h'⟩ := sameK_spec h; subst hk
    exact ⟨_, .int k (bitsOf .or k a b), by simp [binOp, Op.intBits, bitsOf], .int _ _, h'⟩
  | xor =>
    obtain ⟨hk, h'⟩ := sameK_spec h; subst hk
    exact ⟨_, .int k (bitsOf .xor k a b), by simp [binOp, Op.intBits, bitsOf], .int _ _, h'⟩
  | andNot =>
    obtain ⟨hk, h'⟩ := sameK_spec h; subst hk
    exact ⟨_, .int k (bitsOf .andNot k a b), by simp [binOp, Op.intBits, bitsOf], .int _ _, h'⟩
  | eql =>
    obtain ⟨hk, h'⟩ := sameK_spec h; subst hk
    exact ⟨_, .bool (a == b), by simp [binOp, Op.intCmp], .bool _, h'⟩
  | neq =>
    obtain ⟨hk, h'⟩ := sameK_spec h; subst hk
    exact ⟨_, .bool (a != b), by simp [binOp, Op.intCmp], .bool _, h'⟩
  | lss =>
    obtain ⟨hk, h'⟩ := sameK_spec h; subst hk
    exact ⟨_, .bool (decide (a < b)), by simp [binOp, Op.intCmp], .bool _, h'⟩
  | leq =>
    obtain ⟨hk, h'⟩ := sameK_spec h; subst hk
    exact ⟨_, .bool (decide (a ≤ b)), by simp [binOp, Op.intCmp], .bool _, h'⟩
  | gtr =>
    obtain ⟨hk, h'⟩ := sameK_spec h; subst hk
    exact ⟨_, .bool (decide (a > b)), by simp [binOp, Op.intCmp], .bool _, h'⟩
  | geq =>
    obtain ⟨hk, h'⟩ := sameK_spec h; subst hk
    exact ⟨_, .bool (decide (a ≥ b)), by simp [binOp, Op.intCmp], .bool _, h'⟩

theorem run_binStr (op : BinOp) (t : Nat) (a b : List UInt8) {K : D → Prop} (h : binStr op a b K) :
    ∃ d v, (binOp op t (.string ⟨a.toArray⟩) (.string ⟨b.toArray⟩)).run P w = .ok v w ∧ RdD ok w v d ∧ K d := by
  have ea : (⟨a.toArray⟩ : ByteArray).toList = a := by rw [ByteArray.toList_eq]
  have eb : (⟨b.toArray⟩ : ByteArray).toList = b := by rw [ByteArray.toList_eq]
  cases op with
  | add =>
    obtain ⟨h1, h2⟩ := h
    refine ⟨_, .string ⟨(a ++ b).toArray⟩, ?_, .str _ (by simpa using h1), h2⟩
    have e : (⟨a.toArray⟩ : ByteArray) ++ ⟨b.toArray⟩ = ⟨(a ++ b).toArray⟩ := by
      apply ByteArray.ext; simp
    have hn : ¬ ((9223372036854775807 : Int) < ((⟨a.toArray⟩ : ByteArray).size + (⟨b.toArray⟩ : ByteArray).size : Int)) := by
      simp [ByteArray.size, maxLen] at h1 ⊢; omega
    have hm : IntKind.i64.max = 9223372036854775807 := by decide
    simp [binOp, Op.stringOp, e, hm, hn]
  | eql => exact ⟨_, .bool (a == b), by simp [binOp, Op.stringOp, ea, eb], .bool _, h⟩
  | neq => exact ⟨_, .bool (!(a == b)), by simp [binOp, Op.stringOp, ea, eb], .bool _, h⟩
  | lss => exact ⟨_, .bool (Op.bytesLess a b), by simp [binOp, Op.stringOp, ea, eb], .bool _, h⟩
  | leq => exact ⟨_, .bool (Op.bytesLess a b || a == b), by simp [binOp, Op.stringOp, ea, eb], .bool _, h⟩
  | gtr => exact ⟨_, .bool (!(Op.bytesLess a b || a == b)), by simp [binOp, Op.stringOp, ea, eb], .bool _, h⟩
  | geq => exact ⟨_, .bool (!Op.bytesLess a b), by simp [binOp, Op.stringOp, ea, eb], .bool _, h⟩
  | sub => exact h.elim
  | mul => exact h.elim
  | quo => exact h.elim
  | rem => exact h.elim
  | and => exact h.elim
  | or => exact h.elim
  | xor => exact h.elim
  | andNot => exact h.elim
  | shl => exact h.elim
  | shr => exact h.elim

theorem run_equalIn_bool (n : Nat) {t : Nat} (hu : P.underlying t = some .bool) (a b : Bool) : (Op.equalIn (n + 1) t (.bool a) (.bool b)).run P w = .ok (a == b) w := by
  simp [Op.equalIn, run_underlying hu]

theorem run_equalIn_ptr (n : Nat) {t e : Nat} (hu : P.underlying t = some (.pointer e)) (a b : Option Addr) (h0 : a = none ∨ b = none) :
    (Op.equalIn (n + 1) t (.pointer a) (.pointer b)).run P w = .ok (a.isNone && b.isNone) w := by
  cases a with
  | none => simp [Op.equalIn, run_underlying hu]
  | some a => cases b with
    | none => simp [Op.equalIn, run_underlying hu]
    | some b => simp at h0

theorem run_equal_bool (hT : TOK P T) {t : Nat} (hk : (T t).k = .bool) (a b : Bool) : (Op.equal t (.bool a) (.bool b)).run P w = .ok (a == b) w := by
  obtain ⟨d, inf, h⟩ := hT.facts (t := t) (by rw [hk]; intro e; cases e)
  have hd := h.k
  rw [hk] at hd
  have hu : P.underlying t = some .bool := by rw [kOf_inv.2.2.1 hd.symm] at h; exact h.und
  exact run_equalIn_bool 9999 hu a b

theorem run_equal_ptr (hT : TOK P T) {t : Nat} (hk : (T t).k = .ptr) (a b : Option Addr) (h0 : a = none ∨ b = none) : (Op.equal t (.pointer a) (.pointer b)).run P w = .ok (a.isNone && b.isNone) w := by
  obtain ⟨d, inf, h⟩ := hT.facts (t := t) (by rw [hk]; intro e; cases e)
  have hd := h.k
  rw [hk] at hd
  have hu : ∃ e, P.underlying t = some (.pointer e) := by
    obtain ⟨e, rfl⟩ := kOf_inv.2.2.2.2.1 hd.symm
    exact ⟨e, h.und⟩
  obtain ⟨e, hu⟩ := hu
  exact run_equalIn_ptr 9999 hu a b h0

/-- A binary operation on pure data. 'tk': the kind of the operands' type. -/
def binT (op : BinOp) (tk : TK) (x y : D) (K : D → Prop) : Prop :=
  match tk with
  | .int _ => asInt x fun k a => asInt y fun k' b => binInt op k a k' b K
  | .str => asStr x fun a => asStr y fun b => binStr op a b K
  | .bool => asBool x fun a => asBool y fun b => binBool op a b K
  | .ptr => match x, y with
    | .nilp, .nilp => binNil op true K
    | .nilp, .ref _ _ => binNil op false K
    | .ref _ _, .nilp => binNil op false K
    | _, _ => False
  | _ => False

theorem run_binT (hT : TOK P T) (op : BinOp) (t : Nat) {x y : D} {vx vy : Value} (hx : RdD ok w vx x) (hy : RdD ok w vy y) {K : D → Prop} (h : binT op (T t).k x y K) (ox oy : Operand) :
    ∃ d v, (do eqGuard op t ox oy vx vy; binOp op t vx vy).run P w = .ok v w ∧ RdD ok w v d ∧ K d := by
  cases hk : (T t).k <;> rw [hk] at h <;> simp only [binT] at h <;> try exact h.elim
  case int k =>
    obtain ⟨k, a, rfl, h2⟩ := asInt_spec h
    obtain ⟨k', b, rfl, h3⟩ := asInt_spec h2
    cases hx; cases hy
    obtain ⟨d, v, h1, h2⟩ := run_binInt (P := P) (ok := ok) (w := w) op t k k' a b h3
    exact ⟨d, v, by simp [run_eqGuard_int, h1], h2⟩
  case str =>
    obtain ⟨a, rfl, h2⟩ := asStr_spec h
    obtain ⟨b, rfl, h3⟩ := asStr_spec h2
    cases hx; cases hy
    obtain ⟨d, v, h1, h2⟩ := run_binStr (P := P) (ok := ok) (w := w) op t a b h3
    exact ⟨d, v, by simp [run_eqGuard_str, h1], h2⟩
  case bool =>
    obtain ⟨a, rfl, h2⟩ := asBool_spec h
    obtain ⟨b, rfl, h3⟩ := asBool_spec h2
    cases hx; cases hy
    have he := run_equal_bool (w := w) hT hk a b
    cases op <;> simp only [binBool] at h3 <;> try exact h3.elim
    · exact ⟨_, .bool (a == b), by simp [run_eqGuard_bool, binOp, he], .bool _, h3⟩
    · exact ⟨_, .bool (!(a == b)), by simp [run_eqGuard_bool, binOp, he], .bool _, h3⟩
  case ptr =>
    have key : ∀ (a b : Option Addr) (nil : Bool), a = none ∨ b = none → (a.isNone && b.isNone) = nil → binNil op nil K →
        ∃ d v, (do eqGuard op t ox oy (.pointer a) (.pointer b); binOp op t (.pointer a) (.pointer b)).run P w = .ok v w ∧ RdD ok w v d ∧ K d := fun a b nil h0 hn h => by
      have he := run_equal_ptr (w := w) hT hk a b h0
      rw [hn] at he
      cases op <;> simp only [binNil] at h <;> try exact h.elim
      · exact ⟨_, .bool nil, by simp [run_eqGuard_ptr, binOp, he], .bool _, h⟩
      · exact ⟨_, .bool (!nil), by simp [run_eqGuard_ptr, binOp, he], .bool _, h⟩
    cases x <;> cases y <;> simp only at h <;> try exact h.elim
    · cases hx; cases hy; exact key _ _ false (.inr rfl) rfl h
    · cases hx; cases hy; exact key _ _ false (.inl rfl) rfl h
    · cases hx; cases hy; exact key _ _ true (.inl rfl) rfl h

/-- Unary operations. -/
def unD (op : UnOp) (x : D) (K : D → Prop) : Prop :=
  match op with
  | .not => asBool x fun b => K (.bool (!b))
  | .neg => asInt x fun k n => arith k (0 - n) fun n => K (.int k n)
  | _ => False

theorem run_unD (op : UnOp) {x : D} {v : Value} (hx : RdD ok w v x) {K : D → Prop} (h : unD op x K) : ∃ d v', (Op.unary op v).run P w = .ok v' w ∧ RdD ok w v' d ∧ K d := by
  cases op <;> simp only [unD] at h <;> try exact h.elim
  · obtain ⟨k, n, rfl, h2⟩ := asInt_spec h
    cases hx
    exact ⟨.int k (k.wrap (0 - n)), .int k (k.wrap (0 - n)), by simp [Op.unary, Op.intArith], .int _ _, arith_spec h2⟩
  · obtain ⟨b, rfl, h2⟩ := asBool_spec h
    cases hx
    exact ⟨_, .bool (!b), by simp [Op.unary], .bool _, h2⟩

/-- Conversions between integer kinds. -/
def convD (src dst : TK) (x : D) (K : D → Prop) : Prop :=
  match src, dst with
  | .int _, .int k => asInt x fun _ n => arith k n fun n => K (.int k n)
  | _, _ => False

theorem TOK.int (hT : TOK P T) {t : Nat} {k : IntKind} (hk : (T t).k = .int k) : P.underlying t = some (.int k) := by
  obtain ⟨d, i, h⟩ := hT.facts (t := t) (by rw [hk]; intro e; cases e)
  have hd := h.k
  rw [hk] at hd
  rw [kOf_inv.2.2.2.1 k hd.symm] at h
  exact h.und

theorem run_convD (hT : TOK P T) {src dst : Nat} {x : D} {v : Value} (hx : RdD ok w v x) {K : D → Prop} (h : convD (T src).k (T dst).k x K) :
    ∃ d v', (convert src dst v).run P w = .ok v' w ∧ RdD ok w v' d ∧ K d := by
  cases h1 : (T src).k <;> cases h2 : (T dst).k <;> rw [h1, h2] at h <;> simp only [convD] at h <;> try exact h.elim
  rename_i k1 k2
  obtain ⟨k, n, rfl, h3⟩ := asInt_spec h
  cases hx
  exact ⟨.int k2 (k2.wrap n), .int k2 (k2.wrap n), by simp [convert, run_underlying (hT.int h1), run_underlying (hT.int h2), Conv.intToInt], .int _ _, arith_spec h3⟩

end
end Go.Abs

/- Memory of the call's own: cells made, read and written. -/
namespace Go.Abs
open Go Go.RowKit

def cellsδ (id : Nat) : Nat → List V → List (Key × Option Res)
  | _, [] => []
  | off, x :: r => ((id, off), some (.cell x)) :: cellsδ id (off + 1) r

theorem mem_cellsδ (id : Nat) (k : Key) (r : Option Res) : ∀ (xs : List V) (off : Nat), (k, r) ∈ cellsδ id off xs ↔ ∃ j x, xs[j]? = some x ∧ k = (id, off + j) ∧ r = some (.cell x)
  | [], off => by simp [cellsδ]
  | x :: xs, off => by
    simp only [cellsδ, List.mem_cons, mem_cellsδ id k r xs (off + 1), Prod.mk.injEq]
    constructor
    · rintro (⟨rfl, rfl⟩ | ⟨j, y, h1, h2, h3⟩)
      · exact ⟨0, x, rfl, rfl, rfl⟩
      · exact ⟨j + 1, y, by simpa using h1, by rw [h2]; congr 1; omega, h3⟩
    · rintro ⟨j, y, h1, h2, h3⟩
      cases j with
      | zero => simp at h1; subst h1; exact .inl ⟨by simpa using h2, h3⟩
      | succ j => exact .inr ⟨j, y, by simpa using h1, by rw [h2]; congr 1; omega, h3⟩

def ghost (β : Nat → Value) (id : Nat) (v : Value) : Nat → Value := fun i => if i = id then v else β i

theorem ghost_old {β : Nat → Value} {id : Nat} {v : Value} {u : Nat → Prop} (h : ¬ u id) (i : Nat) (hi : u i) : ghost β id v i = β i := by
  unfold ghost; rw [if_neg (fun e : i = id => h (e ▸ hi))]

theorem ghost_new (β : Nat → Value) (id : Nat) (v : Value) : ghost β id v id = v := by simp [ghost]

section
variable {C : Ctx} {β : Nat → Value} {ok : Nat → Prop} {s : S} {a : Act} {w : World}

theorem RelB.size_le (h : RelB C β ok s a w) : C.w0.heap.size ≤ w.heap.size := h.frame.size

theorem RelB.backAlloc (h : RelB C β ok s a w) {β' : Nat → Value} (hβ : ∀ i, s.used i → β' i = β i) (o : Obj) {k : Key} {r : Res} (hr : s.hp k = some r) {b : Nat} (hb : Blk β' (w.alloc o) k r b) : Blk β w k r b :=
  Blk.mono (hβ k.1 (h.heap k r hr).1) (fun b hb => heap_alloc_old w o b (h.sep k r b hr hb).2.1) hb

theorem Blk.cell {k : Key} {x : V} {b : Nat} (h : Blk β w k (.cell x) b) : blkOf (β k.1) = some b := h.elim id (fun h => h.elim)
theorem Blk.arr {k : Key} {sz : Nat} {xs : List D} {b : Nat} (h : Blk β w k (.arr sz xs) b) : blkOf (β k.1) = some b := h.elim id (fun h => h.elim)
theorem Blk.map {k : Key} {es : List (D × D)} {b : Nat} (h : Blk β w k (.map es) b) : blkOf (β k.1) = some b := h.elim id (fun h => h.elim)

theorem RelB.newCells (h : RelB C β ok s a w) {dst : Option Tmp} (hd : ∀ d, dst = some d → d < C.nt) {id : Nat} (hid : ¬ s.used id) {cells : Array Value} (t : TypeId) {xs : List V}
    (hl : cells.size = xs.length) (hx : ∀ (j : Nat) v x, cells[j]? = some v → xs[j]? = some x → RdV β s.used ok w v x ∧ v.oneCell' = true) :
    ∃ β', RelB C β' ok (s.apply dst (.ptr id 0) (cellsδ id 0 xs) [id]) (a.put dst (.pointer (some ⟨w.heap.size, 0, none⟩))) (w.alloc (.cells cells t)) := by
  have hsz := h.size_le
  have hβ := ghost_old (β := β) (v := .pointer (some ⟨w.heap.size, 0, none⟩)) hid
  have hk := keeps_alloc h.okb (.cells cells t)
  refine ⟨ghost β id (.pointer (some ⟨w.heap.size, 0, none⟩)), h.step hd hβ (fun _ h => h) hk (.ptr id 0 w.heap.size (.inr (by simp)) (ghost_new _ _ _)) (fun k r hr _ b hb => ?_) (fun k r hm => ?_) (fun k k' r r' b hm hr hb hb' => ?_)
    (fun b hb => by have := h.okb b hb; simp; omega) (fun b hb => .inl hb) (h.frame.alloc _)⟩
  · have := h.sep k r b hr hb
    exact ⟨⟨this.1, by simp; omega⟩, .inl (heap_alloc_old w _ b this.2.1)⟩
  · obtain ⟨j, x, h1, rfl, h3⟩ := (mem_cellsδ id k _ xs 0).1 hm
    cases h3
    have hj : j < cells.size := by rw [hl]; exact (List.getElem?_eq_some_iff.1 h1).1
    have hv : cells[j]? = some cells[j] := by simp [hj]
    obtain ⟨h4, h5⟩ := hx j _ x hv h1
    refine ⟨.inr (by simp), ⟨w.heap.size, cells, t, cells[j], ghost_new _ _ _, heap_alloc_new w _, by simp [hj], h5, h4.mono hβ (fun i hi => .inl hi) hk (fun _ h => h)⟩, fun b hb => ?_⟩
    have hb := hb.cell
    simp only [ghost_new, blkOf, Option.some.injEq] at hb
    subst hb
    exact ⟨fun hc => by have := h.okb _ hc; omega, by simp, fun hc => by omega⟩
  · obtain ⟨j, x, h1, rfl, h3⟩ := (mem_cellsδ id k _ xs 0).1 hm
    cases h3
    have hb := hb.cell
    simp only [ghost_new, blkOf, Option.some.injEq] at hb
    subst hb
    rcases updH_eq s.hp (cellsδ id 0 xs) k' with ⟨e, hno⟩ | ⟨r0, hm', e⟩
    · have hr' : s.hp k' = some r' := e.symm.trans hr
      have := (h.sep k' r' _ hr' (h.backAlloc hβ _ hr' hb')).2.1
      omega
    · obtain ⟨j', x', h1', h2', _⟩ := (mem_cellsδ id k' _ xs 0).1 hm'
      rw [h2']

theorem setRow_frame {wr : Nat → Nat → Prop} {w0 w : World} (h : Frame wr w0 w) {b : Nat} {cur new : Array Value} {T : TypeId} (hb : w.heap[b]? = some (.cells cur T (0, 0))) (hs : new.size = cur.size)
    (hw : b < w0.heap.size → ∀ o, ¬ wr b o → new[o]? = cur[o]?) (hw' : b < w0.heap.size → ∃ o, wr b o) : Frame wr w0 (w.setRow b new) := by
  refine ⟨h.os, h.tape, h.output, by rw [size_setRow]; exact h.size, fun b' hb' hn => ?_, fun b' c T' fz hc => ?_⟩
  · by_cases e : b' = b
    · subst e
      obtain ⟨o, ho⟩ := hw' hb'
      exact absurd ho (hn o)
    · rw [setRow_other w b b' new e]; exact h.blk b' hb' hn
  · obtain ⟨c', h1, h2, h3⟩ := h.cel b' c T' fz hc
    by_cases e : b' = b
    · subst e
      rw [hb] at h1
      simp only [Option.some.injEq, Obj.cells.injEq] at h1
      obtain ⟨rfl, rfl, rfl⟩ := h1
      exact ⟨new, setRow_heap w b' cur new T (0, 0) hb, by rw [hs, h2], fun o ho => by rw [hw (Array.getElem?_eq_some_iff.1 hc).1 o ho]; exact h3 o ho⟩
    · exact ⟨c', by rw [setRow_other w b b' new e]; exact h1, h2, h3⟩

theorem keeps_setRow {b : Nat} {new : Array Value} (hn : ¬ ok b) : Keeps ok w (w.setRow b new) := fun b' hb' => setRow_other w b b' new (fun e => hn (e ▸ hb'))

/-- The row with some cells written. -/
def patch (cur : Array Value) (o : Nat) (vs : List Value) : Array Value := (cur.toList.take o ++ vs ++ cur.toList.drop (o + vs.length)).toArray

theorem size_patch {cur : Array Value} {o : Nat} {vs : List Value} (h : o + vs.length ≤ cur.size) : (patch cur o vs).size = cur.size := by
  simp [patch]; omega

theorem patch_out {cur : Array Value} {o : Nat} {vs : List Value} (h : o + vs.length ≤ cur.size) {i : Nat} (hi : i < o ∨ o + vs.length ≤ i) : (patch cur o vs)[i]? = cur[i]? := by
  simp only [patch, List.getElem?_toArray]
  rcases hi with hi | hi
  · rw [List.append_assoc, List.getElem?_append_left (by simp; omega), List.getElem?_take_of_lt hi]; simp
  · rw [List.getElem?_append_right (by simp; omega), List.getElem?_drop]
    simp only [List.length_append, List.length_take, Array.length_toList]
    rw [show o + vs.length + (i - (min o cur.size + vs.length)) = i by omega]; simp

theorem patch_in {cur : Array Value} {o : Nat} {vs : List Value} (h : o + vs.length ≤ cur.size) {i : Nat} (hi : i < vs.length) : (patch cur o vs)[o + i]? = vs[i]? := by
  simp only [patch, List.getElem?_toArray]
  rw [List.append_assoc, List.getElem?_append_right (by simp; omega), List.getElem?_append_left (by simp; omega)]
  congr 1
  simp; omega

/-- A block that is not that of a cell's variable. -/
theorem RelB.notCell (h : RelB C β ok s a w) {id off : Nat} {x0 : V} (hx0 : s.hp (id, off) = some (.cell x0)) {b : Nat} (hbl : blkOf (β id) = some b) {k : Key} {r : Res} (hr : s.hp k = some r) (hnc : ∀ x, r ≠ .cell x) {b' : Nat} (hb' : Blk β w k r b') : b' ≠ b := by
  intro e
  subst e
  have hid : k.1 = id := h.inj k (id, off) r _ b' hr hx0 hb' (.inl hbl)
  obtain ⟨_, _, _, _, _, e1, _⟩ := h.heap _ _ hx0
  obtain ⟨k1, k2⟩ := k
  simp only at hid e1
  subst hid
  obtain ⟨_, ho⟩ := h.heap _ _ hr
  cases r with
  | cell x => exact hnc x rfl
  | arr sz ys =>
    obtain ⟨_, a', cap, f1, _⟩ := ho
    simp only at f1
    rw [e1] at f1; cases f1
  | map es =>
    obtain ⟨_, r', ents, clock, f1, _⟩ := ho
    simp only at f1
    rw [e1] at f1; cases f1
  | rows sz rs out =>
    obtain ⟨_, ⟨a', cap, f1, _⟩, _⟩ := ho
    simp only at f1
    rw [e1] at f1; cases f1

theorem RelB.backCell (h : RelB C β ok s a w) {id off : Nat} {x0 : V} (hx0 : s.hp (id, off) = some (.cell x0)) {b : Nat} (hbl : blkOf (β id) = some b) (new : Array Value) {k : Key} {r : Res} (hr : s.hp k = some r) {b' : Nat} (hb' : Blk β (w.setRow b new) k r b') : Blk β w k r b' := by
  by_cases hc : ∃ x, r = .cell x
  · obtain ⟨x, rfl⟩ := hc
    exact .inl hb'.cell
  · exact Blk.mono rfl (fun c hc' => setRow_other w b c new (h.notCell hx0 hbl hr (fun x e => hc ⟨x, e⟩) hc')) hb'

/-- A store into cells of a variable of the call's own. -/
theorem RelB.storeCells (h : RelB C β ok s a w) {dst : Option Tmp} (hd : ∀ d, dst = some d → d < C.nt) {id off : Nat} {xs : List V} (hne : xs ≠ []) (hown : ∀ j, j < xs.length → ∃ x, s.hp (id, off + j) = some (.cell x))
    {vs : List Value} (hl : vs.length = xs.length) (hx : ∀ (j : Nat) v x, vs[j]? = some v → xs[j]? = some x → RdV β s.used ok w v x ∧ v.oneCell' = true) (vd : Value) :
    ∃ b cur T, β id = .pointer (some ⟨b, 0, none⟩) ∧ w.heap[b]? = some (.cells cur T (0, 0)) ∧ off + vs.length ≤ cur.size ∧
      RelB C β ok (s.apply dst .any (cellsδ id off xs) []) (a.put dst vd) (w.setRow b (patch cur off vs)) := by
  have hpos : 0 < xs.length := List.length_pos_iff.2 hne
  obtain ⟨x0, hx0⟩ := hown 0 hpos
  obtain ⟨hu0, b, cur, T, v0, e1, e2, e3, e4, e5⟩ := h.heap _ _ hx0
  have hbl : blkOf (β id) = some b := by rw [show β id = _ from e1]; rfl
  have hsep := h.sep _ _ b hx0 (.inl hbl)
  have hcell : ∀ j, j < xs.length → off + j < cur.size := fun j hj => by
    obtain ⟨x, hx⟩ := hown j hj
    obtain ⟨_, b', cur', T', v', f1, f2, f3, _, _⟩ := h.heap _ _ hx
    rw [show β id = _ from e1] at f1
    simp at f1
    subst f1
    rw [e2] at f2
    simp at f2
    obtain ⟨rfl, rfl⟩ := f2
    exact (Array.getElem?_eq_some_iff.1 f3).1
  have hfit : off + vs.length ≤ cur.size := by have := hcell (xs.length - 1) (by omega); omega
  have hk : Keeps ok w (w.setRow b (patch cur off vs)) := keeps_setRow hsep.1
  have hmono : ∀ {v x}, RdV β s.used ok w v x → RdV β (fun i => s.used i ∨ i ∈ ([] : List Nat)) ok (w.setRow b (patch cur off vs)) v x := fun hv => hv.mono (fun _ _ => rfl) (fun i hi => .inl hi) hk (fun _ h => h)
  have hnewrow := setRow_heap w b cur (patch cur off vs) T (0, 0) e2
  refine ⟨b, cur, T, e1, e2, hfit, h.step hd (fun _ _ => rfl) (fun _ h => h) hk (.any _) (fun k r hr hno b' hb' => ?_) (fun k r hm => ?_) (fun k k' r r' b' hm hr hb hb' => ?_)
    (fun b hb => by rw [size_setRow]; exact h.okb b hb) (fun b hb => .inl hb) (setRow_frame h.frame e2 (size_patch hfit) (fun hb0 o ho => ?_) (fun hb0 => ⟨off, ?_⟩))⟩
  · have hs := h.sep k r b' hr hb'
    refine ⟨⟨hs.1, by rw [size_setRow]; exact hs.2.1⟩, ?_⟩
    by_cases e : b' = b
    · right
      subst e
      have hid : k.1 = id := h.inj k (id, off + 0) r _ b' hr hx0 hb' (.inl hbl)
      cases r with
      | cell x =>
        obtain ⟨k1, k2⟩ := k
        simp only at hid
        subst hid
        obtain ⟨_, ho⟩ := h.heap _ _ hr
        refine ⟨⟨x, rfl⟩, ?_⟩
        obtain ⟨b2, c2, T2, v2, f1, f2, f3, f4, f5⟩ := ho
        rw [show β k1 = _ from e1] at f1
        simp at f1
        subst f1
        rw [e2] at f2
        simp at f2
        obtain ⟨rfl, rfl⟩ := f2
        refine ⟨b', patch cur off vs, T, v2, e1, hnewrow, ?_, f4, hmono f5⟩
        rw [patch_out hfit]
        · exact f3
        · rcases Nat.lt_or_ge k2 off with hlt | hge
          · exact .inl hlt
          · rcases Nat.lt_or_ge k2 (off + vs.length) with hlt | hge'
            · exfalso
              have hj : k2 - off < xs.length := by omega
              exact hno (some (.cell xs[k2 - off])) ((mem_cellsδ k1 (k1, k2) _ xs off).2 ⟨k2 - off, _, by simp [hj], by congr 1; omega, rfl⟩)
            · exact .inr hge'
      | arr sz ys => exact absurd rfl (h.notCell hx0 hbl hr (fun x e => by cases e) hb')
      | map es => exact absurd rfl (h.notCell hx0 hbl hr (fun x e => by cases e) hb')
      | rows sz rs out => exact absurd rfl (h.notCell hx0 hbl hr (fun x e => by cases e) hb')
    · exact .inl (setRow_other w b b' _ e)
  · obtain ⟨j, x, h1, rfl, h3⟩ := (mem_cellsδ id k _ xs off).1 hm
    cases h3
    have hj : j < xs.length := (List.getElem?_eq_some_iff.1 h1).1
    have hv : vs[j]? = some vs[j] := by simp
    obtain ⟨h4, h5⟩ := hx j _ x hv h1
    refine ⟨.inl hu0, ⟨b, patch cur off vs, T, vs[j], e1, hnewrow, by simp only; rw [patch_in hfit (by omega)]; exact hv, h5, hmono h4⟩, fun b' hb' => ?_⟩
    have hb' := hb'.cell
    simp only [hbl, Option.some.injEq] at hb'
    subst hb'
    refine ⟨hsep.1, by rw [size_setRow]; exact hsep.2.1, fun hc => ?_⟩
    obtain ⟨x', hx'⟩ := hown j hj
    exact (h.sep _ _ b hx' (.inl hbl)).2.2 hc
  · obtain ⟨j, x, h1, rfl, h3⟩ := (mem_cellsδ id k _ xs off).1 hm
    cases h3
    have hb := hb.cell
    simp only [hbl, Option.some.injEq] at hb
    subst hb
    rcases updH_eq s.hp (cellsδ id off xs) k' with ⟨e, hno⟩ | ⟨r0, hm', e⟩
    · have hr' : s.hp k' = some r' := e.symm.trans hr
      exact (h.inj k' (id, off + 0) r' _ b hr' hx0 (h.backCell hx0 hbl _ hr' hb') (.inl hbl)).symm
    · obtain ⟨j', x', h1', h2', _⟩ := (mem_cellsδ id k' _ xs off).1 hm'
      rw [h2']
  · refine patch_out hfit ?_
    rcases Nat.lt_or_ge o off with hlt | hge
    · exact .inl hlt
    · rcases Nat.lt_or_ge o (off + vs.length) with hlt | hge'
      · exfalso
        obtain ⟨x', hx'⟩ := hown (o - off) (by omega)
        have := ((h.sep _ _ b hx' (.inl hbl)).2.2 hb0).2
        simp only at this
        rw [show off + (o - off) = o by omega] at this
        exact ho this
      · exact .inr hge'
  · exact (hsep.2.2 hb0).2

end
end Go.Abs
