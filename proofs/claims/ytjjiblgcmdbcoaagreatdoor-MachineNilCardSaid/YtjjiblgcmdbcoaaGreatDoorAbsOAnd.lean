/- The evaluator of one operation, continued: slices cut and appended to, lengths, unary operations, conversions. -/
import Derived.Test.YtjjiblgcmdbcoaaGreatDoorAbsLAnd
import Derived.MapKept
import Derived.WideKeyRuns
set_option linter.unusedVariables false
set_option linter.unusedSimpArgs false
namespace Go.Abs
open Go Go.RowKit

section
variable {P : Program} {T : Nat → TE}

def evUn (op : UnOp) (vals : List V) (K : KK) : Prop :=
  match vals with
  | [.d x] => unD op x fun d => K (.d d) [] [] []
  | _ => False

theorem evUn_sound {o : Oper} {op : UnOp} {t : Nat} {x : Operand} (ho : o.op = .unOp op t x) {vals : List V} {h : Key → Option Res} {K : KK} (hK : evUn op vals K) :
    ∃ x δ rd nw, K x δ rd nw ∧ OpSem P o vals h x δ rd nw := by
  unfold evUn at hK
  split at hK
  · rename_i d0
    have key : ∃ d, K (.d d) [] [] [] ∧ unD op d0 fun d' => d' = d := by
      cases op <;> simp only [unD] at hK <;> try exact hK.elim
      · obtain ⟨k, n, rfl, h2⟩ := asInt_spec hK
        cases k <;> first | exact ⟨_, h2.2, h2.1, rfl⟩ | exact ⟨_, h2, rfl⟩
      · obtain ⟨b, rfl, h2⟩ := asBool_spec hK
        exact ⟨_, h2, rfl⟩
    obtain ⟨d, h1, h2⟩ := key
    refine ⟨_, _, _, _, h1, OpSem.of_val fun β u ok w ρ e g1 g2 g3 => ?_⟩
    simp only [ho, Op.operands, List.map_cons, List.map_nil, List.cons.injEq, and_true] at g1 g2
    have hx := g1 x (by simp)
    rw [g2] at hx
    obtain ⟨d', v', f1, f2, rfl⟩ := run_unD (P := P) op hx.dInv h2
    exact ⟨v', by simp [execOp, ho, f1], .d _ _ f2⟩
  · exact hK.elim

def evConv (src dst : TK) (vals : List V) (K : KK) : Prop :=
  match vals with
  | [.d x] => convD src dst x fun d => K (.d d) [] [] []
  | _ => False

theorem evConv_sound (hT : TOK P T) {o : Oper} {src dst : Nat} {x : Operand} (ho : o.op = .convert src dst x) {vals : List V} {h : Key → Option Res} {K : KK} (hK : evConv (T src).k (T dst).k vals K) :
    ∃ x δ rd nw, K x δ rd nw ∧ OpSem P o vals h x δ rd nw := by
  unfold evConv at hK
  split at hK
  · rename_i d0
    have key : ∀ a b : TK, convD a b d0 (fun d => K (.d d) [] [] []) → ∃ d, K (.d d) [] [] [] ∧ convD a b d0 fun d' => d' = d := by
      intro a b hK
      cases a <;> cases b <;> simp only [convD] at hK ⊢ <;> try exact hK.elim
      rename_i k1 k2
      obtain ⟨k', n, rfl, h2⟩ := asInt_spec hK
      cases k2 <;> first | exact ⟨_, h2.2, h2.1, rfl⟩ | exact ⟨_, h2, rfl⟩
    obtain ⟨d, h1, h2⟩ := key _ _ hK
    refine ⟨_, _, _, _, h1, OpSem.of_val fun β u ok w ρ e g1 g2 g3 => ?_⟩
    simp only [ho, Op.operands, List.map_cons, List.map_nil, List.cons.injEq, and_true] at g1 g2
    have hx := g1 x (by simp)
    rw [g2] at hx
    obtain ⟨d', v', f1, f2, rfl⟩ := run_convD (P := P) hT hx.dInv h2
    exact ⟨v', by simp [execOp, ho, f1], .d _ _ f2⟩
  · exact hK.elim

/-! len -/

def evLen (te : TE) (vals : List V) (K : KK) : Prop :=
  match te.k with
  | .slc _ => match vals with
    | [.d x] => asList x fun xs => K (.d (.int .i64 xs.length)) [] [] []
    | [.sl _ _ _ len] => K (.d (.int .i64 len)) [] [] []
    | [.nils] => K (.d (.int .i64 0)) [] [] []
    | [.emp] => K (.d (.int .i64 0)) [] [] []
    | _ => False
  | .str => match vals with
    | [.d x] => asStr x fun s => K (.d (.int .i64 s.length)) [] [] []
    | _ => False
  | _ => False

theorem evLen_sound (hT : TOK P T) {o : Oper} {t : Nat} {x : Operand} (ho : o.op = .call { callee := .builtin .len, args := #[x], argTypes := #[t] }) {vals : List V} {h : Key → Option Res} {K : KK} (hK : evLen (T t) vals K) :
    ∃ x δ rd nw, K x δ rd nw ∧ OpSem P o vals h x δ rd nw := by
  unfold evLen at hK
  have fin : ∀ (vx : V) (n : Nat), vals = [vx] → (∀ β u ok w v, RdV β u ok w v vx → (Builtin.len_ #[t] o.type #[v]).run P w = .ok (.int .i64 n) w) → K (.d (.int .i64 n)) [] [] [] → ∃ x δ rd nw, K x δ rd nw ∧ OpSem P o vals h x δ rd nw := by
    intro vx n hv hrun hK
    refine ⟨_, _, _, _, hK, OpSem.of_val fun β u ok w ρ e g1 g2 g3 => ?_⟩
    simp only [ho, Op.operands, Call.operands, hv] at g1 g2
    simp at g1 g2
    rw [g2] at g1
    have := hrun β u ok w _ g1
    exact ⟨_, by simp [execOp, ho, resolve, invoke, builtin, this], .d _ _ (.int _ _)⟩
  split at hK
  · rename_i e hk
    have hu := hT.slc hk
    have hl : ∀ (w : World) a n c, (Builtin.len_ #[t] o.type #[.slice a n c]).run P w = .ok (.int .i64 n) w := fun w a n c => by
      simp [Builtin.len_, run_underlying hu, goInt]
    split at hK
    · obtain ⟨xs, rfl, hK2⟩ := asList_spec hK
      refine fin _ _ rfl (fun β u ok w v hv => ?_) hK2
      have := hv.dInv
      cases this <;> exact hl _ _ _ _
    · refine fin _ _ rfl (fun β u ok w v hv => ?_) hK
      cases hv; exact hl _ _ _ _
    · refine fin _ 0 rfl (fun β u ok w v hv => ?_) hK
      cases hv; exact hl _ _ _ _
    · refine fin _ 0 rfl (fun β u ok w v hv => ?_) hK
      cases hv; exact hl _ _ _ _
    · exact hK.elim
  · rename_i hk
    split at hK
    · obtain ⟨s, rfl, hK2⟩ := asStr_spec hK
      obtain ⟨d, inf, hf⟩ := hT.facts (t := t) (by rw [hk]; intro e; cases e)
      have hd := hf.k
      rw [hk] at hd
      rw [kOf_inv.2.1 hd.symm] at hf
      refine fin _ _ rfl (fun β u ok w v hv => ?_) hK2
      have := hv.dInv
      cases this
      have e : (⟨s.toArray⟩ : ByteArray).size = s.length := by simp [ByteArray.size]
      simp [Builtin.len_, run_underlying hf.und, goInt, e]
    · exact hK.elim
  · exact hK.elim

/-! append -/

/-- The contents of a slice of the call's own that may be appended to. -/
def dstOf (sz : Nat) (v : V) (h : Key → Option Res) (K : List D → Option Nat → List Key → Prop) : Prop :=
  match v with
  | .nils => K [] none []
  | .emp => K [] none []
  | .sl id sz' off len => getArr (h (id, 0)) fun sz2 xs => whenB (Nat.beq sz' sz && Nat.beq sz2 sz) (∃ ds, (xs.drop off).take len = ds ∧ off + len ≤ xs.length ∧ K ds (some id) [(id, 0)])
  | _ => False

def srcOf (sz : Nat) (v : V) (h : Key → Option Res) (K : List D → List Key → Prop) : Prop :=
  match v with
  | .nils => K [] []
  | .emp => K [] []
  | .d x => asList x fun ys => (∀ y ∈ ys, y.cells.length = sz) ∧ K ys []
  | .sl id sz' off len => getArr (h (id, 0)) fun sz2 xs => whenB (Nat.beq sz' sz && Nat.beq sz2 sz) (∃ ds, (xs.drop off).take len = ds ∧ off + len ≤ xs.length ∧ K ds [(id, 0)])
  | _ => False

theorem dstOf_spec {sz : Nat} {v : V} {h : Key → Option Res} {K : List D → Option Nat → List Key → Prop} (hp : 0 < sz) (hK : dstOf sz v h K) : ∃ ds rm rd, K ds rm rd ∧
    ∀ (C : Ctx) (β : Nat → Value) (ok : Nat → Prop) (s : S) (a : Act) (w : World) val, RelB C β ok s a w → (∀ k ∈ rd, s.hp k = h k) → RdV β s.used ok w val v →
      OwnArr ok w val sz ds ∧ ∀ b, blkOf val = some b → ∃ id xs, rm = some id ∧ s.hp (id, 0) = some (.arr sz xs) ∧ blkOf (β id) = some b := by
  have nil : ∀ (ok : Nat → Prop) (w : World) (a : Option Addr), OwnArr ok w (.slice a 0 0) sz [] := fun ok w a => ⟨a, 0, rfl, by simp, by simp [maxLen], hp, by simp, fun h => by omega⟩
  have nb : ∀ (a : Option Addr) b, blkOf (.slice a 0 0) ≠ some b := fun a b hb => by cases a <;> simp [blkOf] at hb
  unfold dstOf at hK
  split at hK
  · exact ⟨_, _, _, hK, fun C β ok s a w val hr hrd hv => by cases hv; exact ⟨nil _ _ _, fun b hb => absurd hb (nb _ _)⟩⟩
  · exact ⟨_, _, _, hK, fun C β ok s a w val hr hrd hv => by cases hv; exact ⟨nil _ _ _, fun b hb => absurd hb (nb _ _)⟩⟩
  · rename_i id sz' off len
    obtain ⟨sz2, xs, hh, hK⟩ := getArr_spec hK
    obtain ⟨hb, ds, rfl, hl, hK5⟩ := whenB_spec hK
    simp only [Bool.and_eq_true] at hb
    have e1 : sz' = sz := Nat.eq_of_beq_eq_true hb.1
    have e2 : sz2 = sz := Nat.eq_of_beq_eq_true hb.2
    subst e1; subst e2
    refine ⟨_, _, _, hK5, fun C β ok s a w val hr hrd hv => ?_⟩
    have hsp : s.hp (id, 0) = some (.arr sz2 xs) := (hrd (id, 0) (by simp)).trans hh
    obtain ⟨_, _, ho⟩ := hr.heap _ _ hsp
    obtain ⟨g1, g2⟩ := ho.sub hv hl
    exact ⟨g1, fun b hb => ⟨id, xs, rfl, hsp, g2 b hb⟩⟩
  · exact hK.elim

theorem srcOf_spec {sz : Nat} {v : V} {h : Key → Option Res} {K : List D → List Key → Prop} (hK : srcOf sz v h K) : ∃ ds rd, K ds rd ∧
    ∀ (C : Ctx) (β : Nat → Value) (ok : Nat → Prop) (s : S) (a : Act) (w : World) val, RelB C β ok s a w → (∀ k ∈ rd, s.hp k = h k) → RdV β s.used ok w val v → Src ok w val sz ds := by
  have nil : ∀ (ok : Nat → Prop) (w : World) (a : Option Addr), Src ok w (.slice a 0 0) sz [] := fun ok w a => ⟨a, 0, rfl, by simp, fun h => by simp at h⟩
  unfold srcOf at hK
  split at hK
  · exact ⟨_, _, hK, fun C β ok s a w val hr hrd hv => by cases hv; exact nil _ _ _⟩
  · exact ⟨_, _, hK, fun C β ok s a w val hr hrd hv => by cases hv; exact nil _ _ _⟩
  · obtain ⟨ys, rfl, hw, hK2⟩ := asList_spec hK
    exact ⟨_, _, hK2, fun C β ok s a w val hr hrd hv => Src.of_list hv.dInv (fun i x hx => hw x (List.mem_of_getElem? hx))⟩
  · rename_i id sz' off len
    obtain ⟨sz2, xs, hh, hK⟩ := getArr_spec hK
    obtain ⟨hb, ds, rfl, hl, hK5⟩ := whenB_spec hK
    simp only [Bool.and_eq_true] at hb
    have e1 : sz' = sz := Nat.eq_of_beq_eq_true hb.1
    have e2 : sz2 = sz := Nat.eq_of_beq_eq_true hb.2
    subst e1; subst e2
    refine ⟨_, _, hK5, fun C β ok s a w val hr hrd hv => ?_⟩
    have hsp : s.hp (id, 0) = some (.arr sz2 xs) := (hrd (id, 0) (by simp)).trans hh
    exact Src.of_arr hv (hr.heap _ _ hsp).2.2 hl
  · exact hK.elim

def evAppend (T : Nat → TE) (t : Nat) (vals : List V) (h : Key → Option Res) (n : Nat) (K : KK) : Prop :=
  slcElem (T t) fun e => whenB (T e).known <| whenB (Nat.blt 0 (T e).size && Nat.blt 0 (T e).bytes) <|
    match vals with
    | [d, x] => dstOf (T e).size d h fun ds rm rd => srcOf (T e).size x h fun ys rd' =>
        ((ds.length + ys.length) * (T e).bytes ≤ 140737488355328) ∧ K (.sl n (T e).size 0 (ds.length + ys.length)) (((n, 0), some (.arr (T e).size (ds ++ ys))) :: dropδ rm) (rd ++ rd') [n]
    | _ => False

theorem evAppend_sound (hT : TOK P T) {o : Oper} {t : Nat} {d x : Operand} (ho : o.op = .call { callee := .builtin .append, args := #[d, x], argTypes := #[t, t] }) {vals : List V} {h : Key → Option Res} {n : Nat} {K : KK} (hK : evAppend T t vals h n K) :
    ∃ x δ rd nw, K x δ rd nw ∧ OpSem P o vals h x δ rd nw := by
  obtain ⟨e, hk, hK⟩ := slcElem_spec hK
  obtain ⟨hkn, hK⟩ := whenB_spec hK
  obtain ⟨hpos, hK⟩ := whenB_spec hK
  simp only [Bool.and_eq_true] at hpos
  have hp1 : 0 < (T e).size := Nat.le_of_ble_eq_true hpos.1
  have hp2 : 0 < (T e).bytes := Nat.le_of_ble_eq_true hpos.2
  split at hK
  · obtain ⟨ds, rm, rd, hK, h1⟩ := dstOf_spec hp1 hK
    obtain ⟨ys, rd', ⟨hb, hK⟩, h2⟩ := srcOf_spec hK
    refine ⟨_, _, _, _, hK, OpSem.of_run fun C β ok s a w hr g1 g2 g3 g4 g5 => ?_⟩
    simp only [ho, Op.operands, Call.operands] at g1 g5
    simp at g1 g5
    have hd := hr.eval d g5.1
    have hx := hr.eval x g5.2
    rw [g1.1] at hd
    rw [g1.2] at hx
    obtain ⟨q1, q2⟩ := h1 C β ok s a w _ hr (fun k hk => g2 k (by simp [hk])) hd
    have q3 := h2 C β ok s a w _ hr (fun k hk => g2 k (by simp [hk])) hx
    have hlen : ds.length + ys.length ≤ (ds.length + ys.length) * (T e).bytes := Nat.le_mul_of_pos_right _ hp2
    obtain ⟨β', v', w', hrun, hrel⟩ := hr.append hT (dst := o.dst) g4 (ty := o.type) hk (TE.known_spec hkn) q1 q3 q2 (m := n) (g3 n (by simp)) (by simp only [maxLen]; omega) hb
    exact ⟨v', w', .inl (by simp [execOp, ho, resolve, invoke, builtin, hrun]), β', ok, hrel⟩
  · exact hK.elim

end
end Go.Abs

/- The evaluator of one operation, continued: slice expressions; least and greatest. -/
namespace Go.Abs
open Go Go.RowKit

section
variable {P : Program} {T : Nat → TE}

/-- A bound that may be left out. -/
def bnd (there : Bool) (vs : List V) (K : Option Int → List V → Prop) : Prop :=
  match there with
  | true => match vs with
    | v :: vs => vInt v fun _ n => K (some n) vs
    | [] => False
  | false => K none vs

theorem bnd_spec {x : Option Operand} {xs : List Operand} {e : Operand → V} {vs : List V} {K : Option Int → List V → Prop} (hv : (x.toList ++ xs).map e = vs) (h : bnd x.isSome vs K) :
    ∃ n, K n (xs.map e) ∧ ∀ (β : Nat → Value) (u ok : Nat → Prop) (w : World) (ρ : Operand → Value), (∀ y ∈ x.toList, RdV β u ok w (ρ y) (e y)) → ∃ k, x.map ρ = n.map (Value.int k) := by
  subst hv
  cases x with
  | none => exact ⟨none, h, fun β u ok w ρ _ => ⟨.i64, rfl⟩⟩
  | some y =>
    simp only [bnd, Option.isSome_some, Option.toList_some, List.cons_append, List.nil_append, List.map_cons] at h
    obtain ⟨k, n, he, hK⟩ := vInt_spec h
    refine ⟨some n, hK, fun β u ok w ρ hr => ⟨k, ?_⟩⟩
    have := hr y (by simp)
    rw [he] at this
    have h2 := this.dInv
    simp only [Option.map_some]
    generalize ρ y = v at h2
    cases h2; rfl

def evSlice (T : Nat → TE) (t : Nat) (lo hi mx : Bool) (vals : List V) (K : KK) : Prop :=
  match vals with
  | x :: vs => bnd lo vs fun l vs1 => bnd hi vs1 fun h vs2 => bnd mx vs2 fun m _ =>
    match (T t).k with
    | .str => match x with
      | .d y => asStr y fun s => m = none ∧ (0 ≤ l.getD 0 ∧ l.getD 0 ≤ h.getD s.length ∧ h.getD s.length ≤ s.length) ∧ K (.d (.str ((s.take (h.getD s.length).toNat).drop (l.getD 0).toNat))) [] [] []
      | _ => False
    | .slc e => whenB (T e).known <|
      match m with
      | some m => (m = 0 ∧ h = some 0 ∧ l.getD 0 = 0) ∧ (match x with
        | .d y => asList y fun _ => K .emp [] [] []
        | .sl _ _ _ _ => K .emp [] [] []
        | .nils => K .emp [] [] []
        | .emp => K .emp [] [] []
        | _ => False)
      | none => match x with
        | .d y => asList y fun xs => (0 ≤ l.getD 0 ∧ l.getD 0 ≤ h.getD xs.length ∧ h.getD xs.length ≤ xs.length) ∧ (∀ y ∈ xs, y.cells.length = (T e).size) ∧ K (.d (.list ((xs.take (h.getD xs.length).toNat).drop (l.getD 0).toNat))) [] [] []
        | .sl id sz off len => whenB (Nat.beq sz (T e).size) ((0 ≤ l.getD 0 ∧ l.getD 0 ≤ h.getD len ∧ h.getD len ≤ len) ∧ K (.sl id sz (off + (l.getD 0).toNat) ((h.getD len).toNat - (l.getD 0).toNat)) [] [] [])
        | .emp => (l.getD 0 = 0 ∧ h.getD 0 = 0) ∧ K .emp [] [] []
        | .nils => (l.getD 0 = 0 ∧ h.getD 0 = 0) ∧ K .emp [] [] []
        | _ => False
    | _ => False
  | [] => False

theorem run_slice_gen (hT : TOK P T) {t e : Nat} (hk : (T t).k = .slc e) (he : (T e).k ≠ .none) (w : World) (a : Option Addr) (len cap : Nat) (kl kh : IntKind) (l h : Option Int) (h0 : 0 ≤ l.getD 0) (h1 : l.getD 0 ≤ h.getD len) (h2 : h.getD len ≤ cap) :
    (Instr.sliceAt t (.slice a len cap) (l.map (.int kl)) (h.map (.int kh)) none).run P w =
      .ok (.slice (if cap = (l.getD 0).toNat then a else a.map (·.add ((l.getD 0).toNat * (T e).size))) ((h.getD len).toNat - (l.getD 0).toNat) (cap - (l.getD 0).toNat)) w := by
  have hu := hT.slc hk
  obtain ⟨de, ie, hfe⟩ := hT.facts he
  cases l with
  | none => cases h with
    | none =>
      simp at h1 h2
      simp [Instr.sliceAt, Instr.slice, run_underlying hu, Instr.sliceBounds, hfe.sizeOf]
    | some h =>
      simp at h1 h2
      simp [Instr.sliceAt, Instr.slice, run_underlying hu, Instr.sliceBounds, Instr.sliceBound, asIntOf, hfe.sizeOf, h1, h2]
  | some l => cases h with
    | none =>
      simp at h0 h1 h2
      simp [Instr.sliceAt, Instr.slice, run_underlying hu, Instr.sliceBounds, Instr.sliceBound, asIntOf, hfe.sizeOf, h0, h1]
    | some h =>
      simp at h0 h1 h2
      have h3 : 0 ≤ h := by omega
      have h4 : l ≤ max h 0 := by omega
      simp [Instr.sliceAt, Instr.slice, run_underlying hu, Instr.sliceBounds, Instr.sliceBound, asIntOf, hfe.sizeOf, h0, h2, h3, h4]

theorem run_slice_zero (hT : TOK P T) {t e : Nat} (hk : (T t).k = .slc e) (he : (T e).k ≠ .none) (w : World) (a : Option Addr) (len cap : Nat) (kl kh km : IntKind) (l : Option Int) (h0 : l.getD 0 = 0) :
    (Instr.sliceAt t (.slice a len cap) (l.map (.int kl)) (some (.int kh 0)) (some (.int km 0))).run P w = .ok (.slice a 0 0) w := by
  have hu := hT.slc hk
  obtain ⟨de, ie, hfe⟩ := hT.facts he
  cases l with
  | none => simp [Instr.sliceAt, Instr.slice, run_underlying hu, Instr.sliceBounds, Instr.sliceBound, asIntOf, hfe.sizeOf]
  | some l =>
    simp at h0
    subst h0
    simp [Instr.sliceAt, Instr.slice, run_underlying hu, Instr.sliceBounds, Instr.sliceBound, asIntOf, hfe.sizeOf]

theorem evSlice_sound (hT : TOK P T) {o : Oper} {t : Nat} {x : Operand} {lo hi mx : Option Operand} (ho : o.op = .slice t x lo hi mx) {vals : List V} {h : Key → Option Res} {K : KK}
    (hK : evSlice T t lo.isSome hi.isSome mx.isSome vals K) : ∃ x δ rd nw, K x δ rd nw ∧ OpSem P o vals h x δ rd nw := by
  by_cases hvals : ∃ e : Operand → V, (x :: (lo.toList ++ (hi.toList ++ mx.toList))).map e = vals
  case neg =>
    -- no such state
    unfold evSlice at hK
    have any : ∀ (y : V) δ rd nw, OpSem P o vals h y δ rd nw := fun y δ rd nw C s a w _ h1 => by
      exfalso
      refine hvals ⟨s.ev, ?_⟩
      rw [← h1, ho]
      cases lo <;> cases hi <;> cases mx <;> simp [Op.operands]
    split at hK
    · rename_i x0 vs
      have pick : ∀ (b : Bool) (vs : List V) (K : Option Int → List V → Prop), bnd b vs K → ∃ n vs', K n vs' := fun b vs K hb => by
        unfold bnd at hb
        split at hb
        · split at hb
          · obtain ⟨k, n, _, hK⟩ := vInt_spec hb
            exact ⟨_, _, hK⟩
          · exact hb.elim
        · exact ⟨_, _, hb⟩
      obtain ⟨l, vs1, hK⟩ := pick _ _ _ hK
      obtain ⟨hh, vs2, hK⟩ := pick _ _ _ hK
      obtain ⟨m, vs3, hK⟩ := pick _ _ _ hK
      split at hK
      · split at hK
        · obtain ⟨s, rfl, _, _, hK2⟩ := asStr_spec hK
          exact ⟨_, _, _, _, hK2, any _ _ _ _⟩
        · exact hK.elim
      · obtain ⟨_, hK⟩ := whenB_spec hK
        split at hK
        · obtain ⟨_, hK⟩ := hK
          split at hK
          · obtain ⟨s, rfl, hK2⟩ := asList_spec hK
            exact ⟨_, _, _, _, hK2, any _ _ _ _⟩
          all_goals first | exact ⟨_, _, _, _, hK, any _ _ _ _⟩ | exact hK.elim
        · split at hK
          · obtain ⟨s, rfl, _, _, hK2⟩ := asList_spec hK
            exact ⟨_, _, _, _, hK2, any _ _ _ _⟩
          · obtain ⟨_, _, hK⟩ := whenB_spec hK
            exact ⟨_, _, _, _, hK, any _ _ _ _⟩
          · exact ⟨_, _, _, _, hK.2, any _ _ _ _⟩
          · exact ⟨_, _, _, _, hK.2, any _ _ _ _⟩
          · exact hK.elim
      · exact hK.elim
    · exact hK.elim
  case pos =>
    obtain ⟨e0, rfl⟩ := hvals
    unfold evSlice at hK
    simp only [List.map_cons] at hK
    obtain ⟨l, hK1, b1⟩ := bnd_spec (e := e0) (x := lo) (xs := hi.toList ++ mx.toList) rfl hK
    obtain ⟨hh, hK2, b2⟩ := bnd_spec (e := e0) (x := hi) (xs := mx.toList) rfl hK1
    obtain ⟨m, hK3, b3⟩ := bnd_spec (e := e0) (x := mx) (xs := []) (by simp) hK2
    -- the operands of any state that fits
    have fit : ∀ (res : V) (rd : List Key), (∀ (β : Nat → Value) (u ok : Nat → Prop) (w : World) (vx : Value) (kl kh km : IntKind), RdV β u ok w vx (e0 x) →
        ∃ v, (Instr.sliceAt t vx (l.map (.int kl)) (hh.map (.int kh)) (m.map (.int km))).run P w = .ok v w ∧ RdV β u ok w v res) → OpSem P o ((x :: (lo.toList ++ (hi.toList ++ mx.toList))).map e0) h res [] rd [] := fun res rd H =>
      OpSem.of_val fun β u ok w ρ e g1 g2 g3 => by
        have hops : o.op.operands.toList = x :: (lo.toList ++ (hi.toList ++ mx.toList)) := by
          rw [ho]; cases lo <;> cases hi <;> cases mx <;> simp [Op.operands]
        rw [hops] at g1 g2
        have ee : ∀ y ∈ x :: (lo.toList ++ (hi.toList ++ mx.toList)), e y = e0 y := fun y hy => List.map_inj_left.1 g2 y hy
        have g1' : ∀ y ∈ x :: (lo.toList ++ (hi.toList ++ mx.toList)), RdV β u ok w (ρ y) (e0 y) := fun y hy => by rw [← ee y hy]; exact g1 y hy
        obtain ⟨kl, c1⟩ := b1 β u ok w ρ (fun y hy => g1' y (by simp [hy]))
        obtain ⟨kh, c2⟩ := b2 β u ok w ρ (fun y hy => g1' y (by simp [hy]))
        obtain ⟨km, c3⟩ := b3 β u ok w ρ (fun y hy => g1' y (by simp [hy]))
        obtain ⟨v, r1, r2⟩ := H β u ok w (ρ x) kl kh km (g1' x (by simp))
        exact ⟨v, by simp only [execOp, ho, c1, c2, c3]; rw [Sem.run_bind, r1]; rfl, r2⟩
    generalize hx0 : e0 x = x0 at hK3 fit
    split at hK3
    · rename_i hk
      split at hK3
      · obtain ⟨s, rfl, rfl, ⟨d1, d2, d3⟩, hK4⟩ := asStr_spec hK3
        refine ⟨_, _, _, _, hK4, fit _ _ fun β u ok w vx kl kh km hv => ?_⟩
        obtain ⟨v', r1, r2⟩ := run_slice_str (w := w) (kl := kl) (kh := kh) (lo := l) (hi := hh) hT hk hv.dInv (fun l' e => by subst e; simpa using d1) (fun h' e => by subst e; simpa using d3) d2
        exact ⟨v', r1, .d _ _ r2⟩
      · exact hK3.elim
    · rename_i e hk
      obtain ⟨hkn, hK3⟩ := whenB_spec hK3
      have hke := TE.known_spec hkn
      split at hK3
      · rename_i m0
        obtain ⟨⟨rfl, rfl, d0⟩, hK3⟩ := hK3
        have zero : ∀ (vx : Value), (∃ a n c, vx = .slice a n c) → ∀ (β : Nat → Value) (u ok : Nat → Prop) (w : World) (kl kh km : IntKind), ∃ v, (Instr.sliceAt t vx (l.map (.int kl)) ((some (0 : Int)).map (.int kh)) ((some (0 : Int)).map (.int km))).run P w = .ok v w ∧ RdV β u ok w v .emp :=
          fun vx ⟨a, n, c, e'⟩ β u ok w kl kh km => by
            subst e'
            exact ⟨_, run_slice_zero hT hk hke w a n c kl kh km l d0, .emp _⟩
        split at hK3
        · obtain ⟨s, rfl, hK4⟩ := asList_spec hK3
          exact ⟨_, _, _, _, hK4, fit _ _ fun β u ok w vx kl kh km hv => zero vx (by cases hv.dInv <;> exact ⟨_, _, _, rfl⟩) β u ok w kl kh km⟩
        · exact ⟨_, _, _, _, hK3, fit _ _ fun β u ok w vx kl kh km hv => zero vx (by cases hv; exact ⟨_, _, _, rfl⟩) β u ok w kl kh km⟩
        · exact ⟨_, _, _, _, hK3, fit _ _ fun β u ok w vx kl kh km hv => zero vx (by cases hv; exact ⟨_, _, _, rfl⟩) β u ok w kl kh km⟩
        · exact ⟨_, _, _, _, hK3, fit _ _ fun β u ok w vx kl kh km hv => zero vx (by cases hv; exact ⟨_, _, _, rfl⟩) β u ok w kl kh km⟩
        · exact hK3.elim
      · split at hK3
        · obtain ⟨xs, rfl, ⟨d1, d2, d3⟩, dw, hK4⟩ := asList_spec hK3
          refine ⟨_, _, _, _, hK4, fit _ _ fun β u ok w vx kl kh km hv => ?_⟩
          have hv' := hv.dInv
          have lenle : ∀ n : Nat, hh.getD n ≤ n → 0 ≤ l.getD 0 → l.getD 0 ≤ hh.getD n → ((xs.take (hh.getD n).toNat).drop (l.getD 0).toNat).length = min (hh.getD n).toNat xs.length - (l.getD 0).toNat := fun n _ _ _ => by simp
          cases hv' with
          | lemp a =>
            refine ⟨_, run_slice_gen hT hk hke w a 0 0 kl kh l hh d1 d2 (by simpa using d3), .d _ _ ?_⟩
            simp at d2 d3 ⊢
            have e1 : (l.getD 0).toNat = 0 := by omega
            have e2 : (hh.getD 0).toNat = 0 := by omega
            rw [e1, e2]
            exact .lemp _
          | lst a cap sz _ us q1 q2 q3 q4 q5 q6 q7 q8 =>
            refine ⟨_, run_slice_gen hT hk hke w (some a) xs.length cap kl kh l hh d1 d2 (by omega), .d _ _ ?_⟩
            have qa : ∀ n, ok (a.add n).block ∧ (a.add n).spot = none := fun n => by
              unfold Addr.add
              split
              · exact ⟨q1, q2⟩
              · exact ⟨q1, rfl⟩
            have hlen := lenle xs.length d3 d1 d2
            have hl2 : ((xs.take (hh.getD xs.length).toNat).drop (l.getD 0).toNat).length = (hh.getD ↑xs.length).toNat - (l.getD 0).toNat := by rw [hlen]; congr 1; omega
            rw [← hl2]
            have hget : ∀ (i : Nat) y, ((xs.take (hh.getD xs.length).toNat).drop (l.getD 0).toNat)[i]? = some y → xs[(l.getD 0).toNat + i]? = some y := fun i y hy => by
              rw [List.getElem?_drop, List.getElem?_take] at hy
              split at hy
              · exact hy
              · cases hy
            by_cases hz : ((xs.take (hh.getD xs.length).toNat).drop (l.getD 0).toNat) = []
            · rw [hz]
              have := RdD.lst (ok := ok) (w := w) (if cap = (l.getD 0).toNat then a else a.add ((l.getD 0).toNat * (T e).size)) (cap - (l.getD 0).toNat) 1 [] (fun _ _ => undef) (by split <;> first | exact q1 | exact (qa _).1) (by split <;> first | exact q2 | exact (qa _).2) (by simp) (by omega) (by omega) (by simp) (by simp) (by simp)
              split
              · rename_i hc; rw [if_pos hc] at this; exact this
              · rename_i hc; rw [if_neg hc] at this; exact this
            · obtain ⟨y, hy⟩ := List.exists_mem_of_ne_nil _ hz
              obtain ⟨i, hi⟩ := List.getElem?_of_mem hy
              have hxi := hget i y hi
              have hszE : sz = (T e).size := by rw [← q6 _ _ hxi]; exact dw y (List.mem_of_getElem? hxi)
              have hlt : (l.getD 0).toNat < cap := by have := (List.getElem?_eq_some_iff.1 hxi).1; omega
              rw [if_neg (by omega)]
              obtain ⟨b, o', sp⟩ := a
              simp only at q2
              subst q2
              simp only [Option.map_some, Addr.add_lit]
              refine .lst ⟨b, o' + (l.getD 0).toNat * (T e).size, none⟩ _ sz _ (fun i j => us ((l.getD 0).toNat + i) j) q1 rfl (by rw [hl2]; omega) (by omega) q5 (fun i y hy => q6 _ _ (hget i y hy)) (fun i y j c hy hc => ?_) (fun i y j c hy hc => q8 _ _ j c (hget i y hy) hc)
              have := q7 _ _ j c (hget i y hy) hc
              rw [← hszE]
              simp only at this ⊢
              rwa [show o' + (l.getD 0).toNat * sz + (i * sz + j) = o' + (((l.getD 0).toNat + i) * sz + j) by rw [Nat.add_mul]; omega]
        · rename_i id sz off len _
          obtain ⟨hs, ⟨d1, d2, d3⟩, hK4⟩ := whenB_spec hK3
          have hs' : sz = (T e).size := Nat.eq_of_beq_eq_true hs
          refine ⟨_, _, _, _, hK4, fit _ _ fun β u ok w vx kl kh km hv => ?_⟩
          cases hv with
          | sl _ _ _ _ n cap a0 a q1 q2 q3 q4 q5 =>
            refine ⟨_, run_slice_gen hT hk hke w a len (cap - off) kl kh l hh d1 d2 (by omega), ?_⟩
            rw [show cap - off - (l.getD 0).toNat = cap - (off + (l.getD 0).toNat) by omega]
            refine .sl id sz _ _ n cap a0 _ q1 q2 (by omega) q4 (fun hc => ?_)
            obtain ⟨b, o', f1, f2⟩ := q5 (by omega)
            refine ⟨b, o', f1, ?_⟩
            rw [if_neg (by omega), f2]
            simp only [Option.map_some, Addr.add_lit, ← hs', Nat.add_mul, Nat.add_assoc]
        · obtain ⟨⟨d1, d2⟩, hK4⟩ := hK3
          refine ⟨_, _, _, _, hK4, fit _ _ fun β u ok w vx kl kh km hv => ?_⟩
          cases hv with
          | emp a =>
            refine ⟨_, run_slice_gen hT hk hke w a 0 0 kl kh l hh (by omega) (by simp only [Int.natCast_zero]; omega) (by simp only [Int.natCast_zero]; omega), ?_⟩
            simp only [Int.natCast_zero, d1, d2]
            exact .emp _
        · obtain ⟨⟨d1, d2⟩, hK4⟩ := hK3
          refine ⟨_, _, _, _, hK4, fit _ _ fun β u ok w vx kl kh km hv => ?_⟩
          cases hv with
          | nils =>
            refine ⟨_, run_slice_gen hT hk hke w none 0 0 kl kh l hh (by omega) (by simp only [Int.natCast_zero]; omega) (by simp only [Int.natCast_zero]; omega), ?_⟩
            simp only [Int.natCast_zero, d1, d2]
            exact .emp _
        · exact hK3.elim
    · exact hK3.elim

end
end Go.Abs

/- Maps of the call's own: keys found, entries put and taken away. -/
namespace Go.Abs
open Go Go.RowKit

def keyFit (te : TE) (k : D) : Bool := match fitB te.ks k.cells with
  | true => (match k.one with | true => !te.k.isAgg | false => te.k.isAgg)
  | false => false

/-- The first entry with this key: its index, its value. -/
def findI : List (D × D) → D → Nat → Option (Nat × D)
  | [], _, _ => none
  | e :: es, k, i => match eqCells k.cells e.1.cells with | true => some (i, e.2) | false => findI es k (i + 1)

def look : List (D × D) → D → Option D
  | [], _ => none
  | e :: es, k => match eqCells k.cells e.1.cells with | true => some e.2 | false => look es k

def putM : List (D × D) → D → D → List (D × D)
  | [], k, v => [(k, v)]
  | e :: es, k, v => match eqCells k.cells e.1.cells with | true => (k, v) :: es | false => e :: putM es k v

def delM : List (D × D) → D → List (D × D)
  | [], _ => []
  | e :: es, k => match eqCells k.cells e.1.cells with | true => es | false => e :: delM es k

theorem look_findI : ∀ (es : List (D × D)) (k : D) (i : Nat), look es k = (findI es k i).map (·.2)
  | [], _, _ => rfl
  | e :: es, k, i => by
    unfold look findI
    split
    · rfl
    · exact look_findI es k (i + 1)

section
variable {P : Program} {T : Nat → TE} {ok : Nat → Prop} {w : World}

/-- The facts of a type of keys. -/
structure KeyT (P : Program) (te : TE) (kt : Nat) : Prop where
  eq : EqOK P 10000 kt te.ks
  agg : aggB P kt = te.k.isAgg
  plain : te.k.isAgg = false → ∃ d, P.underlying kt = some d ∧ ((d = .bool ∧ te.ks = [.b]) ∨ (∃ k, d = .int k ∧ te.ks = [.i k]) ∨ (d = .string ∧ te.ks = [.s]))
  wide : te.k.isAgg = true → (match P.underlying kt with | some (.array _ _) | some (.struct _) => true | _ => false) = true

theorem TOK.keyT (hT : TOK P T) {kt : Nat} (hk : (T kt).known = true) (hn : (!(T kt).ks.isEmpty) = true) : KeyT P (T kt) kt := by
  have hne : (T kt).ks ≠ [] := by intro e; rw [e] at hn; cases hn
  obtain ⟨d, i, hf⟩ := hT.facts (TE.known_spec hk)
  obtain ⟨_, hs⟩ := hT.keys (TE.known_spec hk) hne
  have hkk := hf.k
  have hag : aggB P kt = (T kt).k.isAgg := by
    unfold aggB
    rw [hf.und, hkk]
    have := TE.known_spec hk
    rw [hkk] at this
    cases d
    case struct fs =>
      simp only [kOf] at this ⊢
      split at this
      · rename_i h; rw [if_pos h]; rfl
      · exact absurd rfl this
    case array n e =>
      simp only [kOf] at this ⊢
      split at this
      · rename_i h; rw [if_pos h]; rfl
      · exact absurd rfl this
    all_goals first | rfl | exact absurd rfl this
  refine ⟨eqOK_skOf 9994 6 kt _ hs, hag, fun ha => ⟨d, hf.und, ?_⟩, fun ha => ?_⟩
  · rw [← hag] at ha
    unfold aggB at ha
    rw [hf.und] at ha
    simp only [skOf, hf.und] at hs
    cases d <;> simp at hs ha
    · exact .inl ⟨rfl, hs.symm⟩
    · exact .inr (.inl ⟨_, rfl, hs.symm⟩)
    · exact .inr (.inr ⟨rfl, hs.symm⟩)
  · rw [← hag] at ha
    unfold aggB at ha
    split at ha <;> simp_all

theorem keyFit_spec {te : TE} {k : D} (h : keyFit te k = true) : fitB te.ks k.cells = true ∧ k.one = !te.k.isAgg := by
  unfold keyFit at h
  split at h
  · rename_i h1
    refine ⟨h1, ?_⟩
    split at h
    · rename_i h2; rw [h2, h]
    · rename_i h2; rw [h2, h]; rfl
  · cases h

theorem run_findAskingD {te : TE} {kt : Nat} (hK : KeyT P te kt) {vk : Value} {k : D} (hk : RdD ok w vk k) (hfit : keyFit te k = true) : ∀ (ents : List MapEntry) (es : List (D × D)) (i : Nat), ents.length = es.length →
    (∀ (j : Nat) m e, ents[j]? = some m → es[j]? = some e → RdD ok w m.key e.1) → (∀ e ∈ es, keyFit te e.1 = true) →
    ((Instr.findAsking kt vk ents i).run P w = .ok none w ∧ findI es k i = none ∧ (∀ v, putM es k v = es ++ [(k, v)]) ∧ delM es k = es) ∨
    ∃ j m e, (Instr.findAsking kt vk ents i).run P w = .ok (some (i + j, m.val)) w ∧ ents[j]? = some m ∧ es[j]? = some e ∧ findI es k i = some (i + j, e.2) ∧ eqCells k.cells e.1.cells = true ∧ (∀ v, putM es k v = es.set j (k, v)) ∧ delM es k = es.eraseIdx j
  | [], [], i, _, _, _ => .inl ⟨by simp [Instr.findAsking], rfl, fun _ => rfl, rfl⟩
  | [], _ :: _, _, h, _, _ => by simp at h
  | _ :: _, [], _, h, _, _ => by simp at h
  | m :: ents, e :: es, i, hl, hr, hf => by
    obtain ⟨f1, f2⟩ := keyFit_spec hfit
    obtain ⟨g1, g2⟩ := keyFit_spec (hf e (by simp))
    have he := (hK.eq ok w vk m.key k e.1 hk (hr 0 m e rfl rfl) (by rw [Shape, hK.agg]; exact f2) (by rw [Shape, hK.agg]; exact g2) f1 g1).1
    have he' : (Op.equal kt vk m.key).run P w = .ok (eqCells k.cells e.1.cells) w := he
    cases hb : eqCells k.cells e.1.cells with
    | true =>
      rw [hb] at he'
      exact .inr ⟨0, m, e, by simp [Instr.findAsking, he'], rfl, rfl, by simp [findI, hb], hb, fun v => by simp [putM, hb], by simp [delM, hb]⟩
    | false =>
      rw [hb] at he'
      rcases run_findAskingD hK hk hfit ents es (i + 1) (by simpa using hl) (fun j m e hm he => hr (j + 1) m e (by simpa using hm) (by simpa using he)) (fun e he => hf e (by simp [he])) with ⟨q1, q2, q3, q4⟩ | ⟨j, m', e', q1, q2, q3, q4, q5, q6, q7⟩
      · exact .inl ⟨by simp [Instr.findAsking, he', q1], by simp [findI, hb, q2], fun v => by simp [putM, hb, q3], by simp [delM, hb, q4]⟩
      · exact .inr ⟨j + 1, m', e', by simp [Instr.findAsking, he', q1]; omega, by simpa using q2, by simpa using q3, by simp [findI, hb, q4]; omega, q5, fun v => by simp [putM, hb, q6], by simp [delM, hb, q7]⟩

/-- Plain keys are found as the other keys are. -/
theorem findNow_asking {te : TE} {kt : Nat} (hK : KeyT P te kt) {td : TypeDesc} (hu : P.underlying kt = some td) (ha : te.k.isAgg = false) {vk : Value} {k : D} (hk : RdD ok w vk k) (hfit : keyFit te k = true) : ∀ (ents : List MapEntry) (es : List (D × D)) (i : Nat), ents.length = es.length →
    (∀ (j : Nat) m e, ents[j]? = some m → es[j]? = some e → RdD ok w m.key e.1) → (∀ e ∈ es, keyFit te e.1 = true) →
    ∃ r, Instr.findNow td vk ents i = some r ∧ (Instr.findAsking kt vk ents i).run P w = .ok r w
  | [], [], i, _, _, _ => ⟨none, rfl, by simp [Instr.findAsking]⟩
  | [], _ :: _, _, h, _, _ => by simp at h
  | _ :: _, [], _, h, _, _ => by simp at h
  | m :: ents, e :: es, i, hl, hr, hf => by
    obtain ⟨f1, f2⟩ := keyFit_spec hfit
    obtain ⟨g1, g2⟩ := keyFit_spec (hf e (by simp))
    have hm := hr 0 m e rfl rfl
    have he' : (Op.equal kt vk m.key).run P w = .ok (eqCells k.cells e.1.cells) w := (hK.eq ok w vk m.key k e.1 hk hm (by rw [Shape, hK.agg]; exact f2) (by rw [Shape, hK.agg]; exact g2) f1 g1).1
    have hs : Instr.sameNow td vk m.key = some (eqCells k.cells e.1.cells) := by
      obtain ⟨d, hd, hcase⟩ := hK.plain ha
      rw [hu] at hd
      simp only [Option.some.injEq] at hd
      subst hd
      rw [ha] at f2 g2
      generalize e.1 = ek at hm g1 g2
      rcases hcase with ⟨rfl, hks⟩ | ⟨kd, rfl, hks⟩ | ⟨rfl, hks⟩ <;> rw [hks] at f1 g1
      · cases k <;> simp [D.one, D.cells, fitB, fit1] at f1 f2
        cases ek <;> simp [D.one, D.cells, fitB, fit1] at g1 g2
        cases hk
        generalize m.key = mk at hm
        cases hm
        simp [Instr.sameNow, D.cells, eqCells, eq1]
      · cases k <;> simp [D.one, D.cells, fitB] at f1 f2 <;> try (simp [fit1] at f1; done)
        cases ek <;> simp [D.one, D.cells, fitB] at g1 g2 <;> try (simp [fit1] at g1; done)
        rename_i k1 n1 k2 n2
        have e1 : kd = k1 := fit1_int (n := n1) (by split at f1; assumption; cases f1)
        have e2 : kd = k2 := fit1_int (n := n2) (by split at g1; assumption; cases g1)
        subst e1; subst e2
        cases hk
        generalize m.key = mk at hm
        cases hm
        simp [Instr.sameNow, D.cells, eqCells, eq1]
      · cases k <;> simp [D.one, D.cells, fitB, fit1] at f1 f2
        cases ek <;> simp [D.one, D.cells, fitB, fit1] at g1 g2
        rename_i s1 s2
        cases hk
        generalize m.key = mk at hm
        cases hm
        have ea : (⟨s1.toArray⟩ : ByteArray).toList = s1 := by rw [ByteArray.toList_eq]
        have eb : (⟨s2.toArray⟩ : ByteArray).toList = s2 := by rw [ByteArray.toList_eq]
        simp [Instr.sameNow, D.cells, eqCells, eq1, beq_toListBytes, ea, eb]
    cases hb : eqCells k.cells e.1.cells with
    | true =>
      rw [hb] at he' hs
      exact ⟨some (i, m.val), by simp [Instr.findNow, hs], by simp [Instr.findAsking, he']⟩
    | false =>
      rw [hb] at he' hs
      obtain ⟨r, q1, q2⟩ := findNow_asking hK hu ha hk hfit ents es (i + 1) (by simpa using hl) (fun j m e hm he => hr (j + 1) m e (by simpa using hm) (by simpa using he)) (fun e he => hf e (by simp [he]))
      exact ⟨r, by simp [Instr.findNow, hs, q1], by simp [Instr.findAsking, he', q2]⟩

theorem run_findKeyD {te : TE} {kt : Nat} (hK : KeyT P te kt) {vk : Value} {k : D} (hk : RdD ok w vk k) (hfit : keyFit te k = true) (ents : List MapEntry) (es : List (D × D)) (hl : ents.length = es.length)
    (hr : ∀ (j : Nat) m e, ents[j]? = some m → es[j]? = some e → RdD ok w m.key e.1) (hf : ∀ e ∈ es, keyFit te e.1 = true) :
    (Instr.findKey kt vk ents).run P w = (Instr.findAsking kt vk ents).run P w := by
  cases ha : te.k.isAgg with
  | true => exact run_findKey_eq w (hK.wide ha) vk ents
  | false =>
    obtain ⟨d, hd, _⟩ := hK.plain ha
    obtain ⟨r, q1, q2⟩ := findNow_asking hK hd ha hk hfit ents es 0 hl hr hf
    rw [Go.MapKept.run_findKey hd q1, q2]

theorem run_checkKeyD {te : TE} {kt : Nat} (hK : KeyT P te kt) {vk : Value} {k : D} (hk : RdD ok w vk k) (hfit : keyFit te k = true) (em : Bool) : (Instr.checkKey em 10000 kt vk).run P w = .ok () w := by
  obtain ⟨f1, f2⟩ := keyFit_spec hfit
  exact (hK.eq ok w vk vk k k hk hk (by rw [Shape, hK.agg]; exact f2) (by rw [Shape, hK.agg]; exact f2) f1 f1).2 em

theorem eqCells_get : ∀ {xs ys : List D}, xs.length = ys.length → eqCells xs ys = true → ∀ (i : Nat) x y, xs[i]? = some x → ys[i]? = some y → eq1 x y = true
  | [], _, _, _, i, x, y, h, _ => by simp at h
  | _ :: _, [], h, _, _, _, _, _, _ => by simp at h
  | x :: xs, y :: ys, hl, h, i, a, b, ha, hb => by
    rw [eqCells_cons x y xs ys (by simpa using hl)] at h
    simp only [Bool.and_eq_true] at h
    cases i with
    | zero => simp at ha hb; subst ha; subst hb; exact h.1
    | succ i => exact eqCells_get (by simpa using hl) h.2 i a b (by simpa using ha) (by simpa using hb)

theorem fitB_get : ∀ {ks : List SK} {cs : List D}, fitB ks cs = true → ∀ (i : Nat) k c, ks[i]? = some k → cs[i]? = some c → fit1 k c = true
  | [], _, _, i, k, c, h, _ => by simp at h
  | _ :: _, [], h, _, _, _, _, _ => by simp [fitB] at h
  | k :: ks, c :: cs, h, i, k', c', hk, hc => by
    unfold fitB at h
    split at h
    · rename_i h1
      cases i with
      | zero => simp at hk hc; subst hk; subst hc; exact h1
      | succ i => exact fitB_get h i k' c' (by simpa using hk) (by simpa using hc)
    · cases h

theorem sameBits_eq1 {n : Nat} {k : SK} {x y : D} {vx vy : Value} (hx : RdD ok w vx x) (hy : RdD ok w vy y) (fx : fit1 k x = true) (fy : fit1 k y = true) (h : eq1 x y = true) : Instr.sameBits n vy vx = true := by
  cases k
  · cases x <;> simp [fit1] at fx
    cases y <;> simp [fit1] at fy
    cases hx; cases hy
    simp [eq1] at h
    simp [Instr.sameBits, h]
  · cases x <;> try (simp [fit1] at fx; done)
    cases y <;> try (simp [fit1] at fy; done)
    rename_i kd k1 n1 k2 n2
    have e1 : kd = k1 := fit1_int (n := n1) fx
    have e2 : kd = k2 := fit1_int (n := n2) fy
    subst e1; subst e2
    cases hx; cases hy
    simp [eq1] at h
    simp [Instr.sameBits, h]
  · cases x <;> simp [fit1] at fx
    cases y <;> simp [fit1] at fy
    cases hx; cases hy
    simp [eq1] at h
    subst h
    have e : ∀ (a b : ByteArray), Instr.sameBits n (.string a) (.string b) = (a == b) := fun a b => by cases n <;> rfl
    rw [e, beq_toListBytes]
    simp

theorem run_keyThatStays {te : TE} {vk vo : Value} {k ko : D} (hk : RdD ok w vk k) (ho : RdD ok w vo ko) (fk : keyFit te k = true) (fo : keyFit te ko = true) (h : eqCells k.cells ko.cells = true) : (Instr.keyThatStays vo vk).run P w = .ok vk w := by
  obtain ⟨f1, f2⟩ := keyFit_spec fk
  obtain ⟨g1, g2⟩ := keyFit_spec fo
  have hlen : k.cells.length = ko.cells.length := by rw [fitB_length f1, fitB_length g1]
  suffices hs : Instr.sameBits 10000 vo vk = true by simp [Instr.keyThatStays, hs]
  obtain ⟨c1, c2⟩ := hk.cellsOf
  obtain ⟨d1, d2⟩ := ho.cellsOf
  cases ha : te.k.isAgg with
  | true =>
    rw [ha] at f2 g2
    cases k <;> simp [D.one] at f2
    cases ko <;> simp [D.one] at g2
    rename_i cs ds
    cases hk with
    | agg vs _ p1 p2 p3 => cases ho with
      | agg us _ q1 q2 q3 =>
        simp only [D.cells] at *
        show (us.size == vs.size && (us.toList.zip vs.toList).all fun (x, y) => Instr.sameBits 9999 x y) = true
        rw [Bool.and_eq_true]
        refine ⟨by simp [p1, q1, hlen], List.all_eq_true.2 fun ⟨a, b⟩ hab => ?_⟩
        obtain ⟨i, hi⟩ := List.getElem?_of_mem hab
        rw [List.getElem?_zip_eq_some] at hi
        have hia : us[i]? = some a := by simpa using hi.1
        have hib : vs[i]? = some b := by simpa using hi.2
        have hlt : i < cs.length := by rw [← p1]; exact (Array.getElem?_eq_some_iff.1 hib).1
        have hlt' : i < ds.length := by omega
        have hks : i < te.ks.length := by rw [← fitB_length f1]; exact hlt
        exact sameBits_eq1 (p2 i b cs[i] hib (by simp)) (q2 i a ds[i] hia (by simp)) (fitB_get f1 i te.ks[i] cs[i] (by simp) (by simp)) (fitB_get g1 i te.ks[i] ds[i] (by simp) (by simp)) (eqCells_get hlen h i _ _ (by simp) (by simp))
  | false =>
    rw [ha] at f2 g2
    have ek : k.cells = [k] := by cases k <;> first | rfl | simp [D.one] at f2
    have eo : ko.cells = [ko] := by cases ko <;> first | rfl | simp [D.one] at g2
    rw [ek] at f1 h
    rw [eo] at g1 h
    obtain ⟨k0, hks⟩ : ∃ k0, te.ks = [k0] := by
      have := fitB_length f1
      cases hq : te.ks with
      | nil => rw [hq] at this; simp at this
      | cons a r => cases r with
        | nil => exact ⟨a, rfl⟩
        | cons b1 r => rw [hq] at this; simp at this
    rw [hks] at f1 g1
    exact sameBits_eq1 hk ho (fitB_get f1 0 k0 k rfl rfl) (fitB_get g1 0 k0 ko rfl rfl) (by simpa [eqCells] using h)

end
end Go.Abs
