/- MachineNil answers true whatever it is asked: its statement is proved for every state and role, under no condition but the row's own (the listed package-level variables hold what the program's text lays). -/
import Derived.Test.YtjjiblgcmdbcoaaGreatDoorRunBOne
set_option linter.unusedVariables false
set_option linter.unusedSimpArgs false
set_option linter.all false
namespace Go.Proofs.YtjjiblgcmdbcoaaGreatDoor
open Go Go.RowKit Go.Sim
open Go.ChangeShapes Go.WideShapes Go.ChangeAt

noncomputable def kwV : List V := match dM19_0.pre with
  | [(_, .blk _ _ cs)] => cs
  | _ => []
theorem kw_same : kwV = cVs kwCells := by kernel_rfl
theorem kw_one : kwCells.all (fun u => u.oneCell') = true := by kernel_rfl
theorem kw_len : kwCells.length = 40 := by kernel_rfl
theorem kwV_len : kwV.length = 40 := by kernel_rfl

/-- The law's run. -/
theorem runs {W : World} (h : laidMetH Tryz.prog Rows.machineNilRow.laid W) (a b : Value) :
    Calls Tryz.prog 3 #[a, b] W fun e w' => e = .returned (.bool true) ∧ Below W.heap.size W w' := by
  obtain ⟨cur, t, fz, hw, hc⟩ := kw_met h
  refine calls_start1 (T := T) (ng := 5) (k := 1) (F := dM19_0) (cs := kwV) (us := kwCells) (vs := [a, b]) (cur := cur) dM_fact (by kernel_rfl) (by decide) rfl rfl
    (fun g => .cons (.any a) (.cons (.any b) .nil)) hw ?_ ?_ ?_ ?_
  · have : cur.toList.length = 40 := by rw [hc, kw_len]
    rw [kwV_len]; simpa using Nat.le_of_eq this.symm
  · rw [kw_len, kwV_len]
  · intro g i c u hc hu
    rw [kw_same, cVs_get, hu] at hc
    cases hc
    exact ⟨rv_cV1 _ _ _, List.all_eq_true.1 kw_one _ (List.mem_of_getElem? hu)⟩
  · intro i _
    rw [← hc]; simp

/-- What lay when the call began lies as it lay: so the answer stands, and the arguments read as they did. -/
theorem post_below {H : Type} {enc : TypeId × Value → H} {P : Program} {f : Func} {s : ChangeSpec} {apart fresh handsOn again : Bool} {W W' : World} {args : Array Value} {v : Value} {ds gs : List (DataW H)} {before pa pv : List MemPlace}
    (hW : DataW.Whole enc P f.params.toList s.vars apart W args.toList ds gs before) (hb : Below W.heap.size W W')
    (hres : ∀ (b : Nat) (sp : Nat → Bool) (hd : Bool), DataW.TrodAll enc P W' b sp hd f.resultTypes.toList (v.resultList f.resultTypes.size) (s.fn H (ds ++ gs)).results [])
    (hargs : ∀ sp : Nat → Bool, (∀ p ∈ before, sp p.block = true) → DataW.TrodAll enc P W' 0 sp true f.params.toList args.toList (s.fn H (ds ++ gs)).args pa)
    (hvars : ∀ sp : Nat → Bool, (∀ p ∈ before, sp p.block = true) → DataW.TrodVars enc P W' sp s.vars (s.fn H (ds ++ gs)).vars pv)
    (hps : before = pa ++ pv)
    (hok : ∀ (j : Nat) (t : TypeId) (r : Value), f.resultTypes[j]? = some t → (v.resultList f.resultTypes.size)[j]? = some r → Value.okWide P W' .any 0 t r) :
    s.post enc P f apart fresh handsOn again W args v W' := by
  have hlt : ∀ p ∈ before, p.block < W.heap.size := fun p hp => by simpa using hW.lt p hp
  have hd : ∀ p ∈ before, (fun b => decide (b < W.heap.size)) p.block = true := fun p hp => by simpa using hlt p hp
  have ht : ∀ p ∈ before, (fun _ : Nat => true) p.block = true := fun _ _ => rfl
  refine ⟨ds, gs, before, [], pa, pv, hW, hres _ _ _, hargs _ hd, hvars _ hd, hb.frame _, fun _ => ⟨hok, (s.fn H (ds ++ gs)).results ++ (s.fn H (ds ++ gs)).args, (s.fn H (ds ++ gs)).vars, before, ⟨pa, pv, trodAll_append (hargs _ ht) (hres _ _ _), hvars _ ht, hps, fun b off hp => ?_, ?_⟩, fun p hp _ => hp⟩⟩
  · obtain ⟨_, _, _, _, _, hz, _⟩ := hW
    exact (hb.frozen (hlt _ hp)).trans (hz b off hp)
  · obtain ⟨_, _, _, _, _, _, hn⟩ := hW
    exact hn

theorem own : ownKnob Tryz.prog.godebug = none := by kernel_rfl
theorem laidOut : laidOutB Tryz.prog = true := by kernel_rfl

set_option maxRecDepth 100000 in
theorem contract (H : Type) (enc : TypeId × Value → H) (W : World) (args : Array Value) (ds gs : List (DataW H)) (before : List MemPlace)
    (hW : DataW.Whole enc Tryz.prog Tryz.f3.params.toList Rows.machineNilSpec.vars false W args.toList ds gs before) (hL : laidMetH Tryz.prog Rows.machineNilRow.laid W) :
    Calls Tryz.prog 3 args W fun e W' => ∃ v, e = .returned v ∧ Rows.machineNilSpec.post enc Tryz.prog Tryz.f3 false true false false W args v W' := by
  have hW' := hW
  obtain ⟨p, q, hA0, hV, rfl, hfz, hnd⟩ := hW
  have hA : DataW.TrodAll enc Tryz.prog W 0 (fun _ => true) true Tryz.f3.params.toList args.toList ds p := hA0
  rw [Tryz.params3] at hA
  obtain ⟨v0, vs0, d0, ds0, p0, q0, hargs, rfl, rfl, h0, r0⟩ := trodAll_cons hA
  obtain ⟨v1, vs1, d1, ds1, p1, q1, hargs1, rfl, rfl, h1, r1⟩ := trodAll_cons r0
  obtain ⟨rfl, rfl, rfl⟩ := trodAll_nil r1
  subst hargs1
  obtain rfl : args = #[v0, v1] := by cases args; simp_all
  obtain ⟨rfl, rfl⟩ := trodVars_none hV
  clear hA0 hA
  refine (runs hL v0 v1).mono fun e W' ⟨he, hg⟩ => ?_
  subst he
  have hlt : ∀ x ∈ p0 ++ (p1 ++ []) ++ [], x.block < W.heap.size := fun x hx => by simpa using hW'.lt x hx
  refine ⟨_, rfl, post_below (pa := p0 ++ (p1 ++ [])) (pv := []) hW' hg (fun _ _ _ => trodAll_cons_mk (shut_bool Tryz.underlying4 _) trodAll_mk0) (fun sp hs => ?_) (fun _ _ => rfl) rfl (ok_one (by kernel_rfl) rfl (okWide_bool_mk Tryz.underlying4 _))⟩
  have e0 := WideElems.Trod_stays (sp' := sp) (W' := W') laidOut (by kernel_rfl) (of_decide_eq_true (by kernel_rfl)) h0 (fun x hx => hg.same (hlt x (by simp [hx]))) (fun x hx => hs x (by simp [hx]))
  have e1 := WideElems.Trod_stays (sp' := sp) (W' := W') laidOut (by kernel_rfl) (of_decide_eq_true (by kernel_rfl)) h1 (fun x hx => hg.same (hlt x (by simp [hx]))) (fun x hx => hs x (by simp [hx]))
  exact trodAll_cons_mk e0 (trodAll_cons_mk e1 trodAll_mk0)
end Go.Proofs.YtjjiblgcmdbcoaaGreatDoor
