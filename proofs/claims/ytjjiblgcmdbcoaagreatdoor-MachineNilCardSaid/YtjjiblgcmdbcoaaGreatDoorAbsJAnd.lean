/- The evaluator of one operation on abstract values, and its soundness: values, loads, stores. -/
import Derived.Test.YtjjiblgcmdbcoaaGreatDoorAbsGAnd
set_option linter.unusedVariables false
set_option linter.unusedSimpArgs false
namespace Go.Abs
open Go Go.RowKit

abbrev KK := V → List (Key × Option Res) → List Key → List Nat → Prop

/-- What one operation does, told locally: it looks at its operands and at the owned things 'rd'. -/
def OpSem (P : Program) (o : Oper) (vals : List V) (h : Key → Option Res) (x : V) (δ : List (Key × Option Res)) (rd : List Key) (news : List Nat) : Prop :=
  ∀ (C : Ctx) (s : S) (a : Act) (w : World), Rel C s a w → o.op.operands.toList.map s.ev = vals → (∀ k ∈ rd, s.hp k = h k) → (∀ i ∈ news, ¬ s.used i) → (∀ d, o.dst = some d → d < C.nt) →
    (∀ y ∈ o.op.operands.toList, okO y = true) → ∀ (K : Act → World → Prop) (Q : Exit → Act → World → Prop), (∀ a' w', Rel C (s.apply o.dst x δ news) a' w' → K a' w') → o.wp P a w K Q

theorem OpSem.of_run {P : Program} {o : Oper} {vals : List V} {h : Key → Option Res} {x : V} {δ : List (Key × Option Res)} {rd : List Key} {news : List Nat}
    (H : ∀ (C : Ctx) (β : Nat → Value) (ok : Nat → Prop) (s : S) (a : Act) (w : World), RelB C β ok s a w → o.op.operands.toList.map s.ev = vals → (∀ k ∈ rd, s.hp k = h k) → (∀ i ∈ news, ¬ s.used i) → (∀ d, o.dst = some d → d < C.nt) →
      (∀ y ∈ o.op.operands.toList, okO y = true) → ∃ v w', ((execOp a.eval o).run P w = .ok (.value v) w' ∨ (execOp a.eval o).run P w = .ok .skip w' ∧ v = undef) ∧ Rel C (s.apply o.dst x δ news) (a.put o.dst v) w') : OpSem P o vals h x δ rd news := by
  rintro C s a w ⟨β, ok, hr⟩ h1 h2 h3 h4 h5 K Q hK
  obtain ⟨v, w', hrun, hrel⟩ := H C β ok s a w hr h1 h2 h3 h4 h5
  unfold Oper.wp
  rcases hrun with hrun | ⟨hrun, rfl⟩
  · rw [hrun]; exact hK _ _ hrel
  · rw [hrun]; exact hK _ _ hrel

/-- An operation that only makes a value of what its operands are. -/
theorem OpSem.of_val {P : Program} {o : Oper} {vals : List V} {h : Key → Option Res} {x : V} {rd : List Key}
    (H : ∀ (β : Nat → Value) (u ok : Nat → Prop) (w : World) (ρ : Operand → Value) (e : Operand → V), (∀ y ∈ o.op.operands.toList, RdV β u ok w (ρ y) (e y)) → o.op.operands.toList.map e = vals →
      (∀ k ∈ rd, ∀ r, h k = some r → Own β u ok w k r) →
      ∃ v, (execOp ρ o).run P w = .ok (.value v) w ∧ RdV β u ok w v x) : OpSem P o vals h x [] rd [] := by
  refine OpSem.of_run fun C β ok s a w hr h1 h2 h3 h4 h5 => ?_
  obtain ⟨v, hv1, hv2⟩ := H β s.used ok w a.eval s.ev (fun y hy => hr.eval y (h5 y hy)) h1 (fun k hk r hkr => (hr.heap k r (by rw [h2 k hk]; exact hkr)).2)
  exact ⟨v, w, .inl hv1, β, ok, hr.put h4 hv2⟩

theorem RdV.dInv {β : Nat → Value} {u ok : Nat → Prop} {w : World} {v : Value} {x : D} (h : RdV β u ok w v (.d x)) : RdD ok w v x := by
  cases h; assumption

/-- One cell's value as pure data. -/
def vD1 (v : V) (K : D → Prop) : Prop :=
  match v with
  | .d x => K x
  | .nils => K (.list [])
  | .emp => K (.list [])
  | _ => False

def vDs (vs : List V) (K : List D → Prop) : Prop :=
  match vs with
  | [] => K []
  | v :: vs => vD1 v fun d => vDs vs fun ds => K (d :: ds)

def vD (v : V) (K : D → Prop) : Prop :=
  match v with
  | .agg cs => vDs cs fun ds => K (.agg ds)
  | v => vD1 v K

section
variable {P : Program} {T : Nat → TE}

/-! move, pick, extract, makeFunc, nilCheck -/

def evPick (vals : List V) (K : KK) : Prop :=
  match vals with
  | [c, x, y] => vBool c fun b => selB b (K x [] [] []) (K y [] [] [])
  | _ => False

theorem evPick_sound {o : Oper} {c x y : Operand} (ho : o.op = .pick c x y) {vals : List V} {h : Key → Option Res} {K : KK} (hK : evPick vals K) :
    ∃ x δ rd nw, K x δ rd nw ∧ OpSem P o vals h x δ rd nw := by
  unfold evPick at hK
  split at hK
  · rename_i vc vx vy
    obtain ⟨b, rfl, hK2⟩ := vBool_spec hK
    rcases selB_spec hK2 with ⟨rfl, hK3⟩ | ⟨rfl, hK3⟩
    all_goals
      refine ⟨_, _, _, _, hK3, OpSem.of_val fun β u ok w ρ e h1 h2 h3 => ?_⟩
      simp only [ho, Op.operands, List.map_cons, List.map_nil, List.cons.injEq, and_true] at h1 h2
      obtain ⟨e1, e2, e3⟩ := h2
      have hc := h1 c (by simp)
      rw [e1] at hc
      have hc' := hc.dInv
      generalize hvc : ρ c = vc at hc'
      cases hc'
    · exact ⟨ρ x, by simp [execOp, ho, hvc, Go.asBool], by rw [← e2]; exact h1 x (by simp)⟩
    · exact ⟨ρ y, by simp [execOp, ho, hvc, Go.asBool], by rw [← e3]; exact h1 y (by simp)⟩
  · exact hK.elim

def evMove (vals : List V) (K : KK) : Prop :=
  match vals with
  | [x] => K x [] [] []
  | _ => False

theorem evMove_sound {o : Oper} {x : Operand} (ho : o.op = .move x ∨ o.op = .assign x) {vals : List V} {h : Key → Option Res} {K : KK} (hK : evMove vals K) :
    ∃ x δ rd nw, K x δ rd nw ∧ OpSem P o vals h x δ rd nw := by
  unfold evMove at hK
  split at hK
  · rename_i vx
    refine ⟨_, _, _, _, hK, OpSem.of_val fun β u ok w ρ e h1 h2 h3 => ?_⟩
    rcases ho with ho | ho <;>
    · simp only [ho, Op.operands, List.map_cons, List.map_nil, List.cons.injEq, and_true] at h1 h2
      exact ⟨ρ x, by simp [execOp, ho], by rw [← h2]; exact h1 x (by simp)⟩
  · exact hK.elim

def evExtract (i : Nat) (vals : List V) (K : KK) : Prop :=
  match vals with
  | [.tuple vs] => match vs[i]? with
    | some v => K v [] [] []
    | none => False
  | _ => False

theorem evExtract_sound {o : Oper} {x : Operand} {i : Nat} (ho : o.op = .extract x i) {vals : List V} {h : Key → Option Res} {K : KK} (hK : evExtract i vals K) :
    ∃ x δ rd nw, K x δ rd nw ∧ OpSem P o vals h x δ rd nw := by
  unfold evExtract at hK
  split at hK
  · split at hK
    · rename_i vs v hv
      refine ⟨_, _, _, _, hK, OpSem.of_val fun β u ok w ρ e h1 h2 h3 => ?_⟩
      simp only [ho, Op.operands, List.map_cons, List.map_nil, List.cons.injEq, and_true] at h1 h2
      have hx := h1 x (by simp)
      rw [h2] at hx
      generalize hvx : ρ x = vx at hx
      cases hx with
      | tuple us cs g1 g2 =>
        have hi : i < us.size := by rw [g1]; exact (List.getElem?_eq_some_iff.1 hv).1
        have hu : us[i]? = some us[i] := by simp [hi]
        exact ⟨us[i], by simp [execOp, ho, hvx, Instr.extract, hi], g2 i _ v hu hv⟩
    · exact hK.elim
  · exact hK.elim

def evNilCheck (vals : List V) (K : KK) : Prop :=
  match vals with
  | [.d x] => asRef x fun cs off => K (.d (.ref cs off)) [] [] []
  | [.ptr id off] => K (.ptr id off) [] [] []
  | [.func (.func f) x y] => K (.func (.func f) x y) [] [] []
  | _ => False

theorem evNilCheck_sound {o : Oper} {x : Operand} (ho : o.op = .nilCheck x) {vals : List V} {h : Key → Option Res} {K : KK} (hK : evNilCheck vals K) :
    ∃ x δ rd nw, K x δ rd nw ∧ OpSem P o vals h x δ rd nw := by
  have key : ∀ (vx : V), vals = [vx] → (∀ β u ok w v, RdV β u ok w v vx → (∃ a, v = .pointer (some a)) ∨ ∃ f x y, v = .func (.func f) x y) → K vx [] [] [] → ∃ x δ rd nw, K x δ rd nw ∧ OpSem P o vals h x δ rd nw := by
    intro vx hv hsh hK
    refine ⟨_, _, _, _, hK, OpSem.of_val fun β u ok w ρ e h1 h2 h3 => ?_⟩
    simp only [ho, Op.operands, List.map_cons, List.map_nil, hv, List.cons.injEq, and_true] at h1 h2
    have hx := h1 x (by simp)
    rw [h2] at hx
    refine ⟨ρ x, ?_, hx⟩
    rcases hsh β u ok w _ hx with ⟨a, ha⟩ | ⟨f, y, z, hf⟩
    · simp [execOp, ho, ha]
    · simp [execOp, ho, hf]
  unfold evNilCheck at hK
  split at hK
  · rename_i x
    obtain ⟨cs, off, rfl, hK⟩ := asRef_spec hK
    exact key _ rfl (fun β u ok w v hv => .inl (by cases hv.dInv; exact ⟨_, rfl⟩)) hK
  · exact key _ rfl (fun β u ok w v hv => .inl (by cases hv; exact ⟨_, rfl⟩)) hK
  · exact key _ rfl (fun β u ok w v hv => .inr (by cases hv; exact ⟨_, _, _, rfl⟩)) hK
  · exact hK.elim

def evMakeFunc (fn : Fn) (n : Nat) (vals : List V) (K : KK) : Prop := K (.func fn (vals.take n) (vals.drop n)) [] [] []

theorem evMakeFunc_sound {o : Oper} {fn : Fn} {first captured : Array Operand} (ho : o.op = .makeFunc fn first captured) {vals : List V} {h : Key → Option Res} {K : KK} (hK : evMakeFunc fn first.size vals K) :
    ∃ x δ rd nw, K x δ rd nw ∧ OpSem P o vals h x δ rd nw := by
  refine ⟨_, _, _, _, hK, OpSem.of_val fun β u ok w ρ e h1 h2 h3 => ?_⟩
  simp only [ho, Op.operands, Array.toList_append, List.map_append] at h1 h2
  subst h2
  refine ⟨.func fn (first.map ρ) (captured.map ρ), by simp [execOp, ho, Instr.makeFunc], .func _ _ _ _ _ (by simp) (by simp) (fun i v x hv hx => ?_) (fun i v x hv hx => ?_)⟩
  · have hi : i < first.size := by have := (Array.getElem?_eq_some_iff.1 hv).1; simpa using this
    rw [List.getElem?_take_of_lt hi, List.getElem?_append_left (by simpa using hi)] at hx
    simp [hi] at hv hx
    subst hv; subst hx
    exact h1 _ (by simp)
  · have hi : i < captured.size := by have := (Array.getElem?_eq_some_iff.1 hv).1; simpa using this
    rw [List.getElem?_drop, List.getElem?_append_right (by simp)] at hx
    simp [hi] at hv hx
    subst hv; subst hx
    exact h1 _ (by simp)

/-! arithmetic -/

def binEq (op : BinOp) (b : Bool) (K : D → Prop) : Prop :=
  match op with
  | .eql => K (.bool b)
  | .neq => K (.bool (!b))
  | _ => False

/-- Two structs are compared cell by cell. -/
def binAgg (op : BinOp) (ks : List SK) (x y : D) (K : D → Prop) : Prop :=
  asAgg x fun cx => asAgg y fun cy => whenB (!ks.isEmpty) (whenB (fitB ks cx) (whenB (fitB ks cy) (binEq op (eqCells cx cy) K)))

theorem run_binAgg (hT : TOK P T) {op : BinOp} {t : Nat} (hk : (T t).k.isAgg = true) {x y : D} {K : D → Prop} (h : binAgg op (T t).ks x y K) (ox oy : Operand) :
    ∃ d, K d ∧ ∀ (ok : Nat → Prop) (w : World) (vx vy : Value), RdD ok w vx x → RdD ok w vy y → ∃ v, (do eqGuard op t ox oy vx vy; binOp op t vx vy).run P w = .ok v w ∧ RdD ok w v d := by
  obtain ⟨cx, rfl, h'⟩ := asAgg_spec h
  obtain ⟨cy, rfl, h''⟩ := asAgg_spec h'
  obtain ⟨h1, h4⟩ := whenB_spec h''
  obtain ⟨h2, h5⟩ := whenB_spec h4
  obtain ⟨h3, h⟩ := whenB_spec h5
  obtain ⟨hg, hs⟩ := hT.keys (t := t) (by intro e; rw [e] at hk; cases hk) (by intro e; rw [e] at h1; cases h1)
  have hag : aggB P t = true := by
    obtain ⟨d, i, hf⟩ := hT.facts (t := t) (by intro e; rw [e] at hk; cases hk)
    have hd := hf.k
    unfold aggB
    rw [hf.und]
    cases d <;> first | rfl | (rw [hd] at hk; simp [kOf, TK.isAgg] at hk)
  have main : ∀ (ok : Nat → Prop) (w : World) (vx vy : Value), RdD ok w vx (.agg cx) → RdD ok w vy (.agg cy) → (Op.equal t vx vy).run P w = .ok (eqCells cx cy) w ∧ (∀ op, (eqGuard op t ox oy vx vy).run P w = .ok () w) ∧ (∃ xs, vx = .agg xs) ∧ ∃ ys, vy = .agg ys := by
    intro ok w vx vy hx hy
    have := (eqOK_skOf 9994 6 t _ hs ok w vx vy _ _ hx hy (by simp [Shape, hag, D.one]) (by simp [Shape, hag, D.one]) h2 h3).1
    cases hx; cases hy
    refine ⟨this, fun op => ?_, ⟨_, rfl⟩, ⟨_, rfl⟩⟩
    cases op <;> simp [eqGuard, hg]
  cases op <;> simp only [binEq] at h <;> try exact h.elim
  · refine ⟨_, h, fun ok w vx vy hx hy => ?_⟩
    obtain ⟨e1, e2, ⟨xs, rfl⟩, ⟨ys, rfl⟩⟩ := main ok w vx vy hx hy
    exact ⟨.bool (eqCells cx cy), by simp [e2, binOp, e1], .bool _⟩
  · refine ⟨_, h, fun ok w vx vy hx hy => ?_⟩
    obtain ⟨e1, e2, ⟨xs, rfl⟩, ⟨ys, rfl⟩⟩ := main ok w vx vy hx hy
    exact ⟨.bool (!eqCells cx cy), by simp [e2, binOp, e1], .bool _⟩

def evBin (op : BinOp) (te : TE) (vals : List V) (K : KK) : Prop :=
  match vals with
  | [.d x, .d y] => match te.k.isAgg with
    | true => binAgg op te.ks x y fun d => K (.d d) [] [] []
    | false => binT op te.k x y fun d => K (.d d) [] [] []
  | [.ptr _ _, .d y] => match te.k, y with
    | .ptr, .nilp => binNil op false fun d => K (.d d) [] [] []
    | _, _ => False
  | _ => False

theorem evBin_sound (hT : TOK P T) {o : Oper} {op : BinOp} {t ty : Nat} {x y : Operand} (ho : o.op = .binOp op t x y ty) {vals : List V} {h : Key → Option Res} {K : KK} (hK : evBin op (T t) vals K) :
    ∃ x δ rd nw, K x δ rd nw ∧ OpSem P o vals h x δ rd nw := by
  unfold evBin at hK
  split at hK
  · rename_i dx dy
    -- the result's datum hangs on the data alone
    have key : ∃ d, K (.d d) [] [] [] ∧ ∀ (ok : Nat → Prop) (w : World) (vx vy : Value), RdD ok w vx dx → RdD ok w vy dy → ∃ v, (do eqGuard op t x y vx vy; binOp op t vx vy).run P w = .ok v w ∧ RdD ok w v d := by
      split at hK
      · rename_i hag
        exact run_binAgg hT hag hK x y
      have : ∃ d, K (.d d) [] [] [] ∧ binT op (T t).k dx dy fun d' => d' = d := by
        unfold binT at hK ⊢
        split at hK
        · obtain ⟨k, a, rfl, h2⟩ := asInt_spec hK
          obtain ⟨k', b, rfl, h3⟩ := asInt_spec h2
          cases op <;> simp only [binInt] at h3
          case shl => exact ⟨_, h3.2, h3.1, rfl⟩
          case shr => exact ⟨_, h3.2, h3.1, rfl⟩
          all_goals obtain ⟨hk, h4⟩ := sameK_spec h3; subst hk
          case add => cases k <;> first | exact ⟨_, h4.2, h4.1, rfl⟩ | exact ⟨_, h4, rfl⟩
          case sub => cases k <;> first | exact ⟨_, h4.2, h4.1, rfl⟩ | exact ⟨_, h4, rfl⟩
          case mul => cases k <;> first | exact ⟨_, h4.2, h4.1, rfl⟩ | exact ⟨_, h4, rfl⟩
          case quo => cases k <;> first | exact ⟨_, h4.2.2, h4.1, h4.2.1, rfl⟩ | exact ⟨_, h4.2, h4.1, rfl⟩
          case rem => cases k <;> exact ⟨_, h4.2, h4.1, rfl⟩
          all_goals cases k <;> exact ⟨_, h4, rfl⟩
        · obtain ⟨a, rfl, h2⟩ := asStr_spec hK
          obtain ⟨b, rfl, h3⟩ := asStr_spec h2
          cases op <;> simp only [binStr] at h3 <;> first | exact ⟨_, h3.2, h3.1, rfl⟩ | exact ⟨_, h3, rfl⟩ | exact h3.elim
        · obtain ⟨a, rfl, h2⟩ := asBool_spec hK
          obtain ⟨b, rfl, h3⟩ := asBool_spec h2
          cases op <;> simp only [binBool] at h3 <;> first | exact ⟨_, h3, rfl⟩ | exact h3.elim
        · split at hK <;> first | (cases op <;> simp only [binNil] at hK <;> first | exact ⟨_, hK, rfl⟩ | exact hK.elim) | exact hK.elim
        · exact hK.elim
      obtain ⟨d, h1, h2⟩ := this
      refine ⟨d, h1, fun ok w vx vy hx hy => ?_⟩
      obtain ⟨d', v, g1, g2, rfl⟩ := run_binT (w := w) hT op t hx hy h2 x y
      exact ⟨v, g1, g2⟩
    obtain ⟨d, h1, h2⟩ := key
    refine ⟨_, _, _, _, h1, OpSem.of_val fun β u ok w ρ e g1 g2 g3 => ?_⟩
    simp only [ho, Op.operands, List.map_cons, List.map_nil, List.cons.injEq, and_true] at g1 g2
    have hx := g1 x (by simp)
    have hy := g1 y (by simp)
    rw [g2.1] at hx
    rw [g2.2] at hy
    obtain ⟨v, f1, f2⟩ := h2 ok w _ _ hx.dInv hy.dInv
    refine ⟨v, ?_, .d _ _ f2⟩
    simp only [execOp, ho]
    rw [Sem.run_bind, f1]; rfl
  · rename_i id off dy
    split at hK
    · rename_i hk
      have key : ∃ b, K (.d (.bool b)) [] [] [] ∧ ((op = .eql ∧ b = false) ∨ (op = .neq ∧ b = true)) := by
        cases op <;> simp only [binNil] at hK <;> first | exact ⟨_, hK, .inl ⟨rfl, rfl⟩⟩ | exact ⟨_, hK, .inr ⟨rfl, rfl⟩⟩ | exact hK.elim
      obtain ⟨b, h1, h2⟩ := key
      refine ⟨_, _, _, _, h1, OpSem.of_val fun β u ok w ρ e g1 g2 g3 => ?_⟩
      simp only [ho, Op.operands, List.map_cons, List.map_nil, List.cons.injEq, and_true] at g1 g2
      have hx := g1 x (by simp)
      have hy := g1 y (by simp)
      rw [g2.1] at hx
      rw [g2.2] at hy
      have hy' := hy.dInv
      generalize hvx : ρ x = vx at hx
      generalize hvy : ρ y = vy at hy'
      cases hx with
      | ptr id off b' q1 q2 =>
        cases hy'
        have he := run_equal_ptr (P := P) (w := w) hT hk (some ⟨b', off, none⟩) none (.inr rfl)
        refine ⟨.bool b, ?_, .d _ _ (.bool b)⟩
        rcases h2 with ⟨rfl, rfl⟩ | ⟨rfl, rfl⟩ <;> simp [execOp, ho, hvx, hvy, run_eqGuard_ptr, binOp, he]
    · exact hK.elim
  · exact hK.elim

end
end Go.Abs

/- The evaluator of one operation, continued: boxes, loads, stores, addresses. -/
namespace Go.Abs
open Go Go.RowKit

def TE.known (e : TE) : Bool := match e.k with | .none => false | _ => true
/-- A kind of one cell that is no struct. -/
def TE.one (e : TE) : Bool := match e.k with | .none => false | .agg _ => false | .arr _ _ => false | _ => true

theorem TE.one_spec {e : TE} (h : e.one = true) : e.k ≠ .none ∧ e.k.isAgg = false := by
  unfold TE.one at h
  cases hk : e.k <;> simp [hk, TK.isAgg] at h ⊢

/-- Go's conditional on Bools that the evaluation decides. -/

def head1 (r : List D) (K : D → Prop) : Prop := match r with | [c] => K c | _ => False
theorem head1_spec {r : List D} {K : D → Prop} (h : head1 r K) : ∃ c, r = [c] ∧ K c := by
  unfold head1 at h; split at h
  · exact ⟨_, rfl, h⟩
  · exact h.elim

def getCell (r : Option Res) (K : V → Prop) : Prop := match r with | some (.cell v) => K v | _ => False
theorem getCell_spec {r : Option Res} {K : V → Prop} (h : getCell r K) : ∃ v, r = some (.cell v) ∧ K v := by
  unfold getCell at h; split at h
  · exact ⟨_, rfl, h⟩
  · exact h.elim
def getArr (r : Option Res) (K : Nat → List D → Prop) : Prop := match r with | some (.arr sz xs) => K sz xs | _ => False
theorem getArr_spec {r : Option Res} {K : Nat → List D → Prop} (h : getArr r K) : ∃ sz xs, r = some (.arr sz xs) ∧ K sz xs := by
  unfold getArr at h; split at h
  · exact ⟨_, _, rfl, h⟩
  · exact h.elim

/-- The owned cells from 'off' on, 'n' of them. -/
def getCells (h : Key → Option Res) (id : Nat) : (off n : Nat) → (List V → Prop) → Prop
  | _, 0, K => K []
  | off, n + 1, K => getCell (h (id, off)) fun v => getCells h id (off + 1) n fun vs => K (v :: vs)

theorem getCells_spec (h : Key → Option Res) (id : Nat) : ∀ (n off : Nat) (K : List V → Prop), getCells h id off n K → ∃ vs, vs.length = n ∧ (∀ j, j < n → ∃ v, vs[j]? = some v ∧ h (id, off + j) = some (.cell v)) ∧ K vs
  | 0, off, K, hK => ⟨[], rfl, fun j hj => by omega, hK⟩
  | n + 1, off, K, hK => by
    unfold getCells at hK
    obtain ⟨v, h1, hK⟩ := getCell_spec hK
    obtain ⟨vs, h2, h3, hK⟩ := getCells_spec h id n (off + 1) _ hK
    refine ⟨v :: vs, by simp [h2], fun j hj => ?_, hK⟩
    cases j with
    | zero => exact ⟨v, rfl, h1⟩
    | succ j =>
      obtain ⟨v', g1, g2⟩ := h3 j (by omega)
      exact ⟨v', by simpa using g1, by rw [show off + (j + 1) = off + 1 + j by omega]; exact g2⟩

def keysFrom (id : Nat) : (off n : Nat) → List Key
  | _, 0 => []
  | off, n + 1 => (id, off) :: keysFrom id (off + 1) n

theorem mem_keysFrom (id : Nat) : ∀ (n off j : Nat), j < n → (id, off + j) ∈ keysFrom id off n
  | n + 1, off, 0, _ => by simp [keysFrom]
  | n + 1, off, j + 1, hj => by
    have := mem_keysFrom id n (off + 1) j (by omega)
    rw [show off + 1 + j = off + (j + 1) by omega] at this
    simp [keysFrom, this]

/-! load -/

def evLoad (te : TE) (vals : List V) (h : Key → Option Res) (K : KK) : Prop :=
  match vals with
  | [.d x] => asRef x fun cs off =>
    selB te.k.isAgg (cut cs off te.size fun r => K (.d (.agg r)) [] [] []) (whenB te.one (cut cs off 1 fun r => head1 r fun c => K (.d c) [] [] []))
  | [.ptr id off] =>
    selB te.k.isAgg (getCells h id off te.size fun vs => K (mkAgg vs) [] (keysFrom id off te.size) []) (whenB te.one (getCell (h (id, off)) fun v => K v [] [(id, off)] []))
  | [.ael id sz i off] => getArr (h (id, 0)) fun sz' xs => whenB (Nat.beq sz sz') (∃ x, xs[i]? = some x ∧
    selB te.k.isAgg (cut x.cells off te.size fun r => K (.d (.agg r)) [] [(id, 0)] []) (whenB te.one (cut x.cells off 1 fun r => head1 r fun c => K (.d c) [] [(id, 0)] [])))
  | _ => False

section
variable {P : Program} {T : Nat → TE}

/-- A load, run. -/
theorem evLoad_run (hT : TOK P T) {t : Nat} {vals : List V} {h : Key → Option Res} {K : KK} (hK : evLoad (T t) vals h K) :
    ∃ v0 x rd, vals = [v0] ∧ K x [] rd [] ∧ ∀ (β : Nat → Value) (u ok : Nat → Prop) (w : World) (vx : Value), RdV β u ok w vx v0 → (∀ k ∈ rd, ∀ r, h k = some r → Own β u ok w k r) →
      ∃ v, (Instr.loadAt t vx).run P w = .ok v w ∧ RdV β u ok w v x := by
  unfold evLoad at hK
  split at hK
  · obtain ⟨cs, off, rfl, hK⟩ := asRef_spec hK
    unfold selB at hK
    split at hK
    · rename_i hag
      obtain ⟨r, h1, h2, hK⟩ := cut_spec _ _ _ _ hK
      refine ⟨_, _, _, rfl, hK, fun β u ok w vx hx g3 => ?_⟩
      obtain ⟨v', f1, f2⟩ := run_load_ref_agg hT hag hx.dInv h1 h2
      exact ⟨v', f1, .d _ _ f2⟩
    · obtain ⟨ho1, hK⟩ := whenB_spec hK
      obtain ⟨hk1, hk2⟩ := TE.one_spec ho1
      obtain ⟨r, h1, h2, hK⟩ := cut_spec _ _ _ _ hK
      obtain ⟨c, rfl, hK⟩ := head1_spec hK
      refine ⟨_, _, _, rfl, hK, fun β u ok w vx hx g3 => ?_⟩
      obtain ⟨v', f1, f2, _⟩ := run_load_ref_one hT hk1 hk2 hx.dInv (by have := h2 0 (by omega); simpa using this)
      exact ⟨v', f1, .d _ _ f2⟩
  · rename_i id off
    unfold selB at hK
    split at hK
    · rename_i hag
      obtain ⟨vs, h1, h2, hK⟩ := getCells_spec _ _ _ _ _ hK
      refine ⟨_, _, _, rfl, hK, fun β u ok w vx hx g3 => ?_⟩
      cases hx with
      | ptr _ _ b q1 q2 =>
        obtain ⟨d, i, hf⟩ := hT.facts (t := t) (by intro e0; rw [e0] at hag; cases hag)
        have hown : ∀ j, j < (T t).size → ∃ v u0, vs[j]? = some v ∧ w.cell? ⟨b, off + j, none⟩ = some u0 ∧ u0.oneCell' = true ∧ RdV β u ok w u0 v := fun j hj => by
          obtain ⟨v, p1, p2⟩ := h2 j hj
          obtain ⟨b', c, T', v', f1, f2, f3, f4, f5⟩ := g3 _ (mem_keysFrom id _ off j hj) _ p2
          simp only at f1 f3
          rw [q2] at f1
          simp at f1
          subst f1
          exact ⟨v, v', p1, by rw [cell_of_row w b _ c T' (0, 0) f2]; exact f3, f4, f5⟩
        have hl := hf.loadVar_agg hag w b off (fun j => (w.cell? ⟨b, off + j, none⟩).getD undef) (fun j hj => by
          obtain ⟨v, u0, _, p2, _⟩ := hown j hj; rw [p2]; rfl)
        refine ⟨.agg ((List.range (T t).size).map fun j => (w.cell? ⟨b, off + j, none⟩).getD undef).toArray, (by simp [Instr.loadAt, Instr.sureAddr, hl]), rd_mkAgg (by simp [h1]) (fun j v c hv hc => ?_) (fun j v hv => ?_)⟩
        · have hj : j < (T t).size := by rw [← h1]; exact (List.getElem?_eq_some_iff.1 hc).1
          obtain ⟨v0, u0, p1, p2, p3, p4⟩ := hown j hj
          simp [hj, p2] at hv
          rw [p1] at hc
          cases hc
          rw [← hv]; exact p4
        · have hj : j < (T t).size := by have := (Array.getElem?_eq_some_iff.1 hv).1; simpa using this
          obtain ⟨v0, u0, p1, p2, p3, p4⟩ := hown j hj
          simp [hj, p2] at hv
          rw [← hv]; exact p3
    · obtain ⟨ho1, hK⟩ := whenB_spec hK
      obtain ⟨hk1, hk2⟩ := TE.one_spec ho1
      obtain ⟨v, h1, hK⟩ := getCell_spec hK
      refine ⟨_, _, _, rfl, hK, fun β u ok w vx hx g3 => ?_⟩
      cases hx with
      | ptr _ _ b q1 q2 =>
        obtain ⟨d, i, hf⟩ := hT.facts (t := t) hk1
        obtain ⟨b', c, T', v', f1, f2, f3, f4, f5⟩ := g3 _ (by simp) _ h1
        simp only at f1 f3
        rw [q2] at f1
        simp at f1
        subst f1
        exact ⟨v', (by simp [Instr.loadAt, Instr.sureAddr, hf.loadVar_one hk1 hk2 w b off v' (by rw [cell_of_row w b _ c T' (0, 0) f2]; exact f3)]), f5⟩
  · rename_i id sz i off
    obtain ⟨sz', xs, hh, hK⟩ := getArr_spec hK
    obtain ⟨hs, y, hy, hK9⟩ := whenB_spec hK
    have hs' : sz = sz' := Nat.eq_of_beq_eq_true hs
    subst hs'
    -- the element's cells, as they lie
    have base : ∀ (β : Nat → Value) (u ok : Nat → Prop) (w : World) (v : Value), RdV β u ok w v (.ael id sz i off) → Own β u ok w (id, 0) (.arr sz xs) →
        ∃ b o, v = .pointer (some ⟨b, o + off, none⟩) ∧ ∀ j c, y.cells[j]? = some c → ∃ u0, w.cell? ⟨b, o + j, none⟩ = some u0 ∧ RdD ok w u0 c ∧ u0.oneCell' = true ∧ c.one = true := fun β u ok w v hv ho => by
      cases hv with
      | ael _ _ _ _ b o n cap q1 q2 =>
        obtain ⟨_, a0, cap', f1, f2, f3, f4, f5, f6⟩ := ho
        simp only at f1
        rw [q2] at f1
        simp at f1
        obtain ⟨rfl, rfl, rfl⟩ := f1
        have hi : i < xs.length := (List.getElem?_eq_some_iff.1 hy).1
        obtain ⟨b', o', cur, T', e1, e2, e3, e4⟩ := f6 (by omega)
        simp at e1
        obtain ⟨rfl, rfl⟩ := e1
        refine ⟨b, o + i * sz, by rw [Nat.add_assoc], fun j c hc => ?_⟩
        obtain ⟨u0, p1, p2⟩ := e4 i y j c hy hc
        exact ⟨u0, by rw [cell_of_row w b _ cur T' (0, 0) e2, ← p1, Nat.add_assoc], p2⟩
    unfold selB at hK9
    split at hK9
    · rename_i hag
      obtain ⟨r, h1, h2, hK8⟩ := cut_spec _ _ _ _ hK9
      refine ⟨_, _, _, rfl, hK8, fun β u ok w vx hx g3 => ?_⟩
      obtain ⟨b, o, hv, hc⟩ := base β u ok w _ hx (g3 _ (by simp) _ hh)
      obtain ⟨d, inf, hf⟩ := hT.facts (t := t) (by intro e0; rw [e0] at hag; cases hag)
      have hcell : ∀ j, j < (T t).size → ∃ c u0, r[j]? = some c ∧ w.cell? ⟨b, o + off + j, none⟩ = some u0 ∧ RdD ok w u0 c ∧ u0.oneCell' = true ∧ c.one = true := fun j hj => by
        have hr : r[j]? = some r[j] := by simp
        have := h2 j hj
        rw [hr] at this
        obtain ⟨u0, p1, p2⟩ := hc _ _ this
        exact ⟨r[j], u0, hr, by rw [Nat.add_assoc]; exact p1, p2⟩
      have hl := hf.loadVar_agg hag w b (o + off) (fun j => (w.cell? ⟨b, o + off + j, none⟩).getD undef) (fun j hj => by
        obtain ⟨c, u0, _, p2, _⟩ := hcell j hj; rw [p2]; rfl)
      refine ⟨_, (by rw [hv]; simp only [Instr.loadAt, Instr.sureAddr, Sem.run_bind, Sem.run_pure, Result.andThen_ok]; exact hl), .d _ _ (.agg _ _ (by simp [h1]) (fun j v c hv hc => ?_) (fun j v c hv hc => ?_))⟩
      all_goals
        have hj : j < (T t).size := by rw [← h1]; exact (List.getElem?_eq_some_iff.1 hc).1
        obtain ⟨c0, u0, p1, p2, p3, p4⟩ := hcell j hj
        simp [hj, p2] at hv
        rw [p1] at hc
        cases hc
        rw [← hv]
      · exact p3
      · exact p4
    · obtain ⟨ho1, hK8⟩ := whenB_spec hK9
      obtain ⟨hk1, hk2⟩ := TE.one_spec ho1
      obtain ⟨r, h1, h2, hK7⟩ := cut_spec _ _ _ _ hK8
      obtain ⟨c, rfl, hK6⟩ := head1_spec hK7
      refine ⟨_, _, _, rfl, hK6, fun β u ok w vx hx g3 => ?_⟩
      obtain ⟨b, o, hv, hc⟩ := base β u ok w _ hx (g3 _ (by simp) _ hh)
      obtain ⟨d, inf, hf⟩ := hT.facts (t := t) hk1
      obtain ⟨u0, p1, p2, _⟩ := hc off c (by have := h2 0 (by omega); simpa using this)
      exact ⟨u0, (by rw [hv]; simp only [Instr.loadAt, Instr.sureAddr, Sem.run_bind, Sem.run_pure, Result.andThen_ok]; exact hf.loadVar_one hk1 hk2 w b (o + off) u0 p1), .d _ _ p2⟩
  · exact hK.elim

theorem evLoad_sound (hT : TOK P T) {o : Oper} {t : Nat} {x : Operand} (ho : o.op = .load t x) {vals : List V} {h : Key → Option Res} {K : KK} (hK : evLoad (T t) vals h K) :
    ∃ x δ rd nw, K x δ rd nw ∧ OpSem P o vals h x δ rd nw := by
  obtain ⟨v0, y, rd, rfl, hK, hrun⟩ := evLoad_run hT hK
  refine ⟨_, _, _, _, hK, OpSem.of_val fun β u ok w ρ e g1 g2 g3 => ?_⟩
  simp only [ho, Op.operands, List.map_cons, List.map_nil, List.cons.injEq, and_true] at g1 g2
  have hx := g1 x (by simp)
  rw [g2] at hx
  obtain ⟨v, f1, f2⟩ := hrun β u ok w _ hx g3
  exact ⟨v, by simp [execOp, ho, f1], f2⟩

/-! addresses -/

def TE.fields (e : TE) : List (Nat × Nat × Bool) := match e.k with | .agg fs => fs | _ => []

def fieldOff (fs : List (Nat × Nat × Bool)) (f : Nat) (K : Nat → Prop) : Prop :=
  match fs, f with
  | (fo, fsz, _) :: _, 0 => whenB (Nat.blt 0 fsz) (K fo)
  | _ :: fs, f + 1 => fieldOff fs f K
  | [], _ => False

theorem fieldOff_spec : ∀ (fs : List (Nat × Nat × Bool)) (f : Nat) (K : Nat → Prop), fieldOff fs f K → ∃ fo fsz fb, fs[f]? = some (fo, fsz, fb) ∧ fsz ≠ 0 ∧ K fo
  | (fo, fsz, fb) :: fs, 0, K, h => by
    unfold fieldOff at h
    obtain ⟨h1, h2⟩ := whenB_spec h
    exact ⟨fo, fsz, fb, rfl, by have := Nat.le_of_ble_eq_true h1; omega, h2⟩
  | _ :: fs, f + 1, K, h => by
    unfold fieldOff at h
    obtain ⟨fo, fsz, fb, h1, h2⟩ := fieldOff_spec fs f K h
    exact ⟨fo, fsz, fb, by simpa using h1, h2⟩
  | [], _, K, h => by unfold fieldOff at h; exact h.elim

def evFieldAddr (te : TE) (f : Nat) (vals : List V) (K : KK) : Prop :=
  fieldOff te.fields f fun fo =>
    match vals with
    | [.d x] => asRef x fun cs off => K (.d (.ref cs (off + fo))) [] [] []
    | [.ptr id off] => K (.ptr id (off + fo)) [] [] []
    | [.ael id sz i off] => K (.ael id sz i (off + fo)) [] [] []
    | _ => False

theorem evFieldAddr_sound (hT : TOK P T) {o : Oper} {t f : Nat} {x : Operand} (ho : o.op = .fieldAddr t x f) {vals : List V} {h : Key → Option Res} {K : KK} (hK : evFieldAddr (T t) f vals K) :
    ∃ x δ rd nw, K x δ rd nw ∧ OpSem P o vals h x δ rd nw := by
  obtain ⟨fo, fsz, fb, h1, h2, hK⟩ := fieldOff_spec _ _ _ hK
  obtain ⟨fs, hk⟩ : ∃ fs, (T t).k = .agg fs ∧ (T t).fields = fs := by
    unfold TE.fields at h1 ⊢
    split at h1
    · rename_i fs hk; exact ⟨fs, hk, rfl⟩
    · simp at h1
  obtain ⟨hk, hfs⟩ := hk
  rw [hfs] at h1
  have hrun : ∀ (ρ : Operand → Value) (w : World) b o', ρ x = .pointer (some ⟨b, o', none⟩) → (execOp ρ o).run P w = .ok (.value (.pointer (some ⟨b, o' + fo, none⟩))) w := fun ρ w b o' hx => by
    have := run_fieldAt (w := w) hT hk h1 h2 b o'
    simp [execOp, ho, hx, this]
  split at hK
  · obtain ⟨cs, off, rfl, hK⟩ := asRef_spec hK
    refine ⟨_, _, _, _, hK, OpSem.of_val fun β u ok w ρ e g1 g2 g3 => ?_⟩
    simp only [ho, Op.operands, List.map_cons, List.map_nil, List.cons.injEq, and_true] at g1 g2
    have hx := g1 x (by simp)
    rw [g2] at hx
    have hx' := hx.dInv
    generalize hvx : ρ x = vx at hx'
    cases hx' with
    | ref b o' _ _ us q1 q2 q3 => exact ⟨_, hrun ρ w _ _ hvx, .d _ _ (by rw [Nat.add_assoc]; exact .ref b o' _ _ us q1 q2 q3)⟩
  · refine ⟨_, _, _, _, hK, OpSem.of_val fun β u ok w ρ e g1 g2 g3 => ?_⟩
    simp only [ho, Op.operands, List.map_cons, List.map_nil, List.cons.injEq, and_true] at g1 g2
    have hx := g1 x (by simp)
    rw [g2] at hx
    generalize hvx : ρ x = vx at hx
    cases hx with
    | ptr _ off b q1 q2 => exact ⟨_, hrun ρ w _ _ hvx, .ptr _ _ b q1 q2⟩
  · rename_i id sz i off _
    refine ⟨_, _, _, _, hK, OpSem.of_val fun β u ok w ρ e g1 g2 g3 => ?_⟩
    simp only [ho, Op.operands, List.map_cons, List.map_nil, List.cons.injEq, and_true] at g1 g2
    have hx := g1 x (by simp)
    rw [g2] at hx
    generalize hvx : ρ x = vx at hx
    cases hx with
    | ael _ _ _ _ b o' n cap q1 q2 => exact ⟨_, hrun ρ w _ _ hvx, by rw [show o' + (i * sz + off) + fo = o' + (i * sz + (off + fo)) by omega]; exact .ael _ sz i _ b o' n cap q1 q2⟩
  · exact hK.elim

def slcElem (te : TE) (K : Nat → Prop) : Prop := match te.k with | .slc e => K e | _ => False
theorem slcElem_spec {te : TE} {K : Nat → Prop} (h : slcElem te K) : ∃ e, te.k = .slc e ∧ K e := by
  unfold slcElem at h
  split at h
  · exact ⟨_, by assumption, h⟩
  · exact h.elim

def evIndexAddr (T : Nat → TE) (t : Nat) (vals : List V) (K : KK) : Prop :=
  slcElem (T t) fun e => whenB (T e).known <|
    match vals with
    | [.d x, i] => asList x fun xs => vInt i fun _ n => 0 ≤ n ∧ ∃ y, xs[n.toNat]? = some y ∧ y.cells.length = (T e).size ∧ K (.d (.ref y.cells 0)) [] [] []
    | [.sl id sz off len, i] => vInt i fun _ n => (0 ≤ n ∧ n < len) ∧ whenB (Nat.beq sz (T e).size) (K (.ael id sz (off + n.toNat) 0) [] [] [])
    | _ => False

theorem TE.known_spec {e : TE} (h : e.known = true) : e.k ≠ .none := by
  intro e0; unfold TE.known at h; rw [e0] at h; cases h

theorem evIndexAddr_sound (hT : TOK P T) {o : Oper} {t : Nat} {x ix : Operand} (ho : o.op = .indexAddr t x ix) {vals : List V} {h : Key → Option Res} {K : KK} (hK : evIndexAddr T t vals K) :
    ∃ x δ rd nw, K x δ rd nw ∧ OpSem P o vals h x δ rd nw := by
  obtain ⟨e, hk, hK⟩ := slcElem_spec hK
  obtain ⟨hkn, hK⟩ := whenB_spec hK
  have hke := TE.known_spec hkn
  split at hK
  · obtain ⟨xs, rfl, hK⟩ := asList_spec hK
    obtain ⟨k, n, rfl, h0, y, hy, hsz, hK⟩ := vInt_spec hK
    refine ⟨_, _, _, _, hK, OpSem.of_val fun β u ok w ρ e' g1 g2 g3 => ?_⟩
    simp only [ho, Op.operands, List.map_cons, List.map_nil, List.cons.injEq, and_true] at g1 g2
    have hx := g1 x (by simp)
    have hi := g1 ix (by simp)
    rw [g2.1] at hx
    rw [g2.2] at hi
    have hi' := hi.dInv
    generalize hvi : ρ ix = vi at hi'
    cases hi'
    obtain ⟨v', f1, f2⟩ := run_indexAt_list (k := k) hT hk hke hx.dInv h0 hy hsz
    exact ⟨v', by simp [execOp, ho, hvi, f1], .d _ _ f2⟩
  · rename_i id sz off len i _ _
    obtain ⟨k, n, rfl, ⟨h0, hlt⟩, hK⟩ := vInt_spec hK
    obtain ⟨hs, hK⟩ := whenB_spec hK
    have hs' : sz = (T e).size := Nat.eq_of_beq_eq_true hs
    refine ⟨_, _, _, _, hK, OpSem.of_val fun β u ok w ρ e' g1 g2 g3 => ?_⟩
    simp only [ho, Op.operands, List.map_cons, List.map_nil, List.cons.injEq, and_true] at g1 g2
    have hx := g1 x (by simp)
    have hi := g1 ix (by simp)
    rw [g2.1] at hx
    rw [g2.2] at hi
    have hi' := hi.dInv
    generalize hvi : ρ ix = vi at hi'
    generalize hvx : ρ x = vx at hx
    cases hi'
    cases hx with
    | sl _ _ _ _ n0 cap a0 a q1 q2 q3 q4 q5 =>
      obtain ⟨b, o', e1, e2⟩ := q5 (by omega)
      obtain ⟨de, ie, hfe⟩ := hT.facts hke
      have hu := hT.slc hk
      refine ⟨.pointer (some ⟨b, o' + ((off + n.toNat) * sz + 0), none⟩), ?_, .ael id sz (off + n.toNat) 0 b o' n0 cap q1 (by rw [q2, e1])⟩
      have : o' + off * sz + n.toNat * (T e).size = o' + (off + n.toNat) * sz := by rw [← hs', Nat.add_mul]; omega
      simp [execOp, ho, hvi, hvx, e2, Instr.indexAt, run_underlying hu, asIntOf, hfe.sizeOf, h0, hlt, Addr.add_lit, this]
  · exact hK.elim

def isStr (tk : TK) (p : Prop) : Prop := match tk with | .str => p | _ => False
theorem isStr_spec {tk : TK} {p : Prop} (h : isStr tk p) : tk = .str ∧ p := by
  unfold isStr at h; split at h
  · exact ⟨rfl, h⟩
  · exact h.elim

def evIndex (te : TE) (vals : List V) (K : KK) : Prop :=
  isStr te.k <|
    match vals with
    | [.d x, i] => asStr x fun s => vInt i fun _ n => 0 ≤ n ∧ ∃ c, s[n.toNat]? = some c ∧ K (.d (.int .u8 c.toNat)) [] [] []
    | _ => False

theorem evIndex_sound (hT : TOK P T) {o : Oper} {t : Nat} {x ix : Operand} (ho : o.op = .index t x ix) {vals : List V} {h : Key → Option Res} {K : KK} (hK : evIndex (T t) vals K) :
    ∃ x δ rd nw, K x δ rd nw ∧ OpSem P o vals h x δ rd nw := by
  obtain ⟨hk, hK⟩ := isStr_spec hK
  split at hK
  · obtain ⟨xs, rfl, hK⟩ := asStr_spec hK
    obtain ⟨k, n, rfl, h0, c, hc, hK⟩ := vInt_spec hK
    refine ⟨_, _, _, _, hK, OpSem.of_val fun β u ok w ρ e' g1 g2 g3 => ?_⟩
    simp only [ho, Op.operands, List.map_cons, List.map_nil, List.cons.injEq, and_true] at g1 g2
    have hx := g1 x (by simp)
    have hi := g1 ix (by simp)
    rw [g2.1] at hx
    rw [g2.2] at hi
    have hi' := hi.dInv
    generalize hvi : ρ ix = vi at hi'
    cases hi'
    have := run_index_str (k := k) hT hk hx.dInv h0 hc
    exact ⟨_, by simp [execOp, ho, hvi, this], .d _ _ (.int _ _)⟩
  · exact hK.elim

end
end Go.Abs
