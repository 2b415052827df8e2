/- Sim: a table of types as a search tree. -/
import Derived.Test.YtjjiblgcmdbcoaaGreatDoorSimQOne
set_option linter.unusedVariables false
set_option linter.unusedSimpArgs false
set_option linter.all false
namespace Go.Sim
open Go Go.RowKit
open Go.Abs (TE TK SK TOK teOf ksOf)

inductive TyT where
  | nil
  | leaf (t : Nat) (e : TE)
  | node (m : Nat) (l r : TyT)

def TyT.look : TyT → Nat → TE
  | .nil, _ => ⟨.none, 0, 0, .tuple #[], []⟩
  | .leaf t e, x => match Nat.beq t x with | true => e | false => ⟨.none, 0, 0, .tuple #[], []⟩
  | .node m l r, x => match Nat.blt x m with | true => l.look x | false => r.look x

def TyT.leaves : TyT → List (Nat × TE)
  | .nil => []
  | .leaf t e => [(t, e)]
  | .node _ l r => l.leaves ++ r.leaves

theorem TyT.look_spec (x : Nat) : ∀ t : TyT, (t.look x).k = .none ∨ (x, t.look x) ∈ t.leaves
  | .nil => .inl rfl
  | .leaf t e => by
    unfold TyT.look
    cases h : Nat.beq t x with
    | true => right; rw [← Nat.eq_of_beq_eq_true h]; exact List.mem_cons_self
    | false => exact .inl rfl
  | .node m l r => by
    unfold TyT.look
    cases h : Nat.blt x m with
    | true => exact (TyT.look_spec x l).imp id (fun h => List.mem_append_left _ h)
    | false => exact (TyT.look_spec x r).imp id (fun h => List.mem_append_right _ h)

def bareTE (e : TE) : TE := { e with ks := [] }
def ksWant (P : Program) (x : Nat × TE) : List SK := match x.2.ks with | [] => [] | _ => ksOf P x.1

theorem TyT.tok {P : Program} {t : TyT} (h : t.leaves.map (fun x => (bareTE x.2, x.2.ks)) = t.leaves.map (fun x => (teOf P x.1, ksWant P x))) : TOK P t.look := fun x => by
  rcases TyT.look_spec x t with h' | h'
  · exact .inl h'
  · right
    have : ∀ (l : List (Nat × TE)), l.map (fun x => (bareTE x.2, x.2.ks)) = l.map (fun x => (teOf P x.1, ksWant P x)) → ∀ e, (x, e) ∈ l → bareTE e = teOf P x ∧ (e.ks = [] ∨ e.ks = ksOf P x) := by
      intro l
      induction l with
      | nil => intro _ e he; cases he
      | cons y l ih =>
        intro hl e he
        simp only [List.map_cons, List.cons.injEq, Prod.mk.injEq] at hl
        rcases List.mem_cons.1 he with he | he
        · rw [← he] at hl
          refine ⟨hl.1.1, ?_⟩
          have := hl.1.2
          unfold ksWant at this
          cases hk : e.ks with
          | nil => exact .inl rfl
          | cons k ks => right; simp only [hk] at this; exact this
        · exact ih hl.2 e he
    exact this _ h _ h'

/-! functions -/
inductive FT where
  | nil
  | leaf (f : Nat) (e : FE)
  | node (m : Nat) (l r : FT)
noncomputable def FT.look : FT → Nat → Option FE
  | .nil, _ => none
  | .leaf t e, x => match Nat.beq t x with | true => some e | false => none
  | .node m l r, x => match Nat.blt x m with | true => l.look x | false => r.look x
def annOf : List (Nat × List DI) → Nat → List DI
  | [], _ => []
  | x :: l, i => match Nat.beq x.1 i with | true => x.2 | false => annOf l i
/-- A function's entry. -/
noncomputable def feOf (f : Func) (ann : Nat → List DI) : FE := ⟨fun _ _ _ e => e, match f.body with | some c => c | none => .skip, f.results.toList, f.ntmps, ann⟩
end Go.Sim
