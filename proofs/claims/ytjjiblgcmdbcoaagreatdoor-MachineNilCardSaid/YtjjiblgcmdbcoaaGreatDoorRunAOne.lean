/- MachineNil: the start of a run that looks at one read-only variable, and the law's run. -/
import Derived.Test.YtjjiblgcmdbcoaaGreatDoorSimDM18And
set_option linter.unusedVariables false
set_option linter.unusedSimpArgs false
set_option linter.all false
namespace Go.Sim
open Go Go.RowKit
open Go.Abs (TE TK SK TOK)

/-- A run that asks for one variable that is only read, and comes back with a plain truth: what lay there lies as it lay. -/
theorem calls_start1 {P : Program} {T : Nat → TE} {ng f k : Nat} {F : Fact} {cs : List V} {us vs : List Value} {b : Bool} {cur : Array Value} {Tb : TypeId} {fz : Nat × Nat} {w : World}
    (h : ∀ w0, FactT P T w0 ng f F) (hp : F.pre = [(k, .blk true cs.length cs)]) (hk : k < ng) (hv : F.v = .bool b) (hm : F.m = ng)
    (ha : ∀ g, RVL g ng F.args vs) (hw : w.heap[k]? = some (.cells cur Tb fz)) (hc : cs.length ≤ cur.size) (hl : us.length = cs.length)
    (hr : ∀ (g : Gh) (i : Nat) c u, cs[i]? = some c → us[i]? = some u → RV g ng c u ∧ u.oneCell' = true) (hcur : ∀ i, i < us.length → cur[i]? = us[i]?) :
    Calls P f vs.toArray w fun e w' => e = .returned (.bool b) ∧ Below w.heap.size w w' := by
  obtain ⟨t1, ⟨_, h1⟩, _⟩ := (h w).run
  have hget : ∀ (i : B) (o : Obj), i.get (preT F.pre .lf) = some o → i.num = k ∧ o = .blk true cs.length cs.length (putN cs .lf 0) := fun i o ho => by
    rcases preT_get F.pre .lf i o ho with ⟨fo, h1, h2⟩ | h1
    · rw [hp] at h1
      have := List.mem_singleton.1 h1
      cases this
      exact ⟨rfl, h2⟩
    · rw [B.get_lf] at h1; cases h1
  have hst : HR T w ng (fun id => ⟨id.num, 0, cs.length⟩) (fun id => id.get (preT F.pre .lf)) ⟨ng⟩ w := by
    refine ⟨rfl, rfl, rfl, Nat.le_refl _, fun _ _ => rfl, fun id o ho => ?_, fun id id' o o' ho _ _ hro => ?_, fun id o ho hro => ?_, fun i _ => ⟨bOf_num i, rfl⟩, Nat.le_refl _⟩
    · obtain ⟨e1, rfl⟩ := hget id o ho
      refine ⟨by rw [e1]; exact hk, cur, Tb, fz, by rw [← hw]; show w.heap[id.num]? = _; rw [e1], (fun h => by cases h), by simpa using hc, Nat.le_refl _, fun j v hj => ?_⟩
      rw [get_putN] at hj
      split at hj
      · rename_i hj'
        have hj2 : j < cs.length := by omega
        refine ⟨hj2, us[j]'(by omega), ?_, ?_⟩
        · show cur[0 + j]? = _
          rw [Nat.zero_add, hcur j (by omega)]; exact List.getElem?_eq_getElem _
        · exact hr _ j v _ (by simpa using hj) (List.getElem?_eq_getElem _)
      · rw [B.get_lf] at hj; cases hj
    · obtain ⟨_, rfl⟩ := hget id o ho
      cases hro
    · obtain ⟨_, rfl⟩ := hget id o ho
      cases hro
  rw [hv, hm] at h1
  refine (h1 _ _ w vs hst (fun id o ho => ho) (ha _)).mono ?_
  rintro e w' ⟨g', hp', val, rfl, st, hval⟩
  exact ⟨by cases hval; rfl, st.hr.os, st.hr.tape, st.hr.output, st.sz, fun k hk => st.hr.old k hk⟩
end Go.Sim
