/- Sim: a table of functions with facts laid over it; the start of a run. -/
import Derived.Test.YtjjiblgcmdbcoaaGreatDoorSimW3And
set_option linter.unusedVariables false
set_option linter.unusedSimpArgs false
set_option linter.all false
namespace Go.Sim
open Go Go.RowKit
open Go.Abs (TE TK SK TOK)

noncomputable def ovl (T : Nat → TE) (ng k : Nat) (fe : FE) (Fs : List Fact) (FF : Nat → Option FC) : Nat → Option FC := fun f => match Nat.beq f k with
  | true => some (fcOf T ng { fe with pre := factsPre ng Fs })
  | false => FF f
section
variable {P : Program} {T : Nat → TE} {w0 : World} {ng : Nat}
theorem ovl_ok {k : Nat} {fe : FE} {Fs : List Fact} {FF : Nat → Option FC} (h : FOKC P T w0 ng FF) (hf : ∀ F ∈ Fs, FactT P T w0 ng k F) (hb : BodyOK P T w0 ng k fe) : FOKC P T w0 ng (ovl T ng k fe Fs FF) := fun f fc hfc => by
  have hfc : (match Nat.beq f k with | true => some (fcOf T ng { fe with pre := factsPre ng Fs }) | false => FF f) = some fc := hfc
  split at hfc
  · rename_i hk
    cases hfc
    rw [beq_iff.1 hk]
    exact ⟨_, rfl, entry_facts hf hb⟩
  · exact h f fc hfc
theorem facts_nil {f : Nat} : ∀ F ∈ ([] : List Fact), FactT P T w0 ng f F := fun _ h => by cases h
theorem facts_cons {f : Nat} {F : Fact} {Fs : List Fact} (h : FactT P T w0 ng f F) (hs : ∀ F ∈ Fs, FactT P T w0 ng f F) : ∀ G ∈ F :: Fs, FactT P T w0 ng f G := fun G hG => by
  rcases List.mem_cons.1 hG with rfl | hG
  · exact h
  · exact hs G hG
theorem fact_of (hT : TOK P T) {FF : Nat → Option FC} (hF : FOKC P T w0 ng FF) {f : Nat} {fe : FE} (hb : BodyOK P T w0 ng f fe) {N n : Nat} {F : Fact} (h : factB T FF ng N n f F = true) : FactT P T w0 ng f F := by
  obtain ⟨fn, h1, _, h3, _⟩ := hb
  exact factB_ok hT hF ⟨fn, h1, by rw [h3]; rfl⟩ h
end

/-- Where globals lie. -/
def g0 : Gh := fun id => ⟨id.num, 0, 0⟩
/-- Nothing is known. -/
theorem hr_start {T : Nat → TE} {w : World} {ng : Nat} : HR T w ng g0 (fun _ => none) ⟨ng⟩ w where
  os := rfl
  tape := rfl
  output := rfl
  size := Nat.le_refl _
  old := fun _ _ => rfl
  obj := fun _ _ h => by cases h
  sep := fun _ _ _ _ h => by cases h
  new := fun _ _ h => by cases h
  glob := fun i _ => ⟨bOf_num i, rfl⟩
  ngx := Nat.le_refl _
/-- A run that asks for nothing and comes back with a plain truth: what lay there lies as it lay. -/
theorem calls_start {P : Program} {T : Nat → TE} {ng f : Nat} {F : Fact} {b : Bool} (h : ∀ w0, FactT P T w0 ng f F) (ha : F.args = []) (hp : F.pre = []) (hv : F.v = .bool b) (hm : F.m = ng) (w : World) :
    Calls P f #[] w fun e w' => e = .returned (.bool b) ∧ Below w.heap.size w w' := by
  obtain ⟨t1, ⟨_, h1⟩, _⟩ := (h w).run
  rw [ha, hp, hv, hm] at h1
  refine (h1 g0 (fun _ => none) w [] hr_start (fun id o ho => by rw [show preT [] .lf = (.lf : Tr Obj) from rfl, B.get_lf] at ho; cases ho) .nil).mono ?_
  rintro e w' ⟨g', hp', val, rfl, st, hval⟩
  refine ⟨by cases hval; rfl, st.hr.os, st.hr.tape, st.hr.output, st.sz, fun k hk => st.hr.old k hk⟩
end Go.Sim
