/- DecideDominates: what alive() answers wherever the listed variables lie; what the law answers, whatever it is given. -/
import Derived.Test.YthckjidmpbiccaaGreatDoorBRunAOne
import Derived.Test.YthckjidmpbiccaaGreatDoorDRunBOne
import Derived.Test.YthckjidmpbiccaaGreatDoorSimDA24And
import Derived.Test.YthckjidmpbiccaaGreatDoorBelAAnd
import Derived.SizedLaws
set_option linter.unusedVariables false
set_option linter.unusedSimpArgs false
set_option linter.all false
namespace Go.Proofs.YthckjidmpbiccaaGreatDoor
open Go Go.RowKit
theorem aiQ:([0,1,3]:List Nat).all (fun k=>!(Abs.gl k).isEmpty&&(Abs.gl k).all dOk&&Nat.beq ((Abs.gl k).map dV).length (Sim.cVs ((Abs.gl k).map dV)).length&&Nat.beq (Abs.gl k).length (Sim.cVs ((Abs.gl k).map dV)).length)=true:=by kernel_rfl
set_option maxRecDepth 100000 in
theorem alive_pure:Abs.Pure Tryz.prog 4 [] [.bool true]:=by
 have hgs:∀ k∈([0,1,3]:List Nat),(Abs.gl k≠[]∧(Abs.gl k).all dOk=true)∧((Abs.gl k).map dV).length=(Sim.cVs ((Abs.gl k).map dV)).length∧(Abs.gl k).length=(Sim.cVs ((Abs.gl k).map dV)).length:=fun k hk=>by
  have h:=List.all_eq_true.1 aiQ k hk
  simp only [Bool.and_eq_true,Bool.not_eq_true',List.isEmpty_eq_false_iff] at h
  exact ⟨h.1.1,Nat.eq_of_beq_eq_true h.1.2,Nat.eq_of_beq_eq_true h.2⟩
 refine ⟨⟨_,Tryz.func4,by kernel_rfl,rfl⟩,fun ok w vs hgl hokb hsz hrd=>?_⟩
 obtain rfl:vs=#[]:=Array.eq_empty_of_size_eq_zero hsz
 refine (Sim.Hw (T:=T) (ng:=8) (gs:=[0,1,3]) (F:=dA_root) (cs:=fun k=>Sim.cVs ((Abs.gl k).map dV)) (us:=fun k=>(Abs.gl k).map dV) (vs:=[]) aam (by kernel_rfl) (by decide) rfl rfl
  (fun g => .nil) (fun k hk=>?_) (fun k hk=>(hgs k hk).2.1) (fun k hk g i c u hc hu=>?_)).mono ?_
 ·obtain ⟨cur,t,fz,h1,h2,h3⟩:=Hu (hgl k (hgs k hk).1.1) (hgs k hk).1.2 (hgs k hk).1.1
  exact ⟨cur,t,fz,h1,by rw [← (hgs k hk).2.2];exact h2,h3⟩
 ·rw [Sim.zy,hu] at hc
  cases hc
  refine ⟨Sim.KP _ _ _,?_⟩
  obtain ⟨d,hd,rfl⟩:=List.mem_map.1 (List.mem_of_getElem? hu)
  exact (Wp (ok:=fun _=>True) (w:=w) (List.all_eq_true.1 (hgs k hk).1.2 d hd)).2.1
 ·rintro e w' ⟨rfl,hb⟩
  exact ⟨_,rfl,⟨hb.os,hb.tape,hb.output,hb.size,fun b hb' _=>hb.block b hb',fun b c T fz hbc=>⟨c,(hb.block b (Array.getElem?_eq_some_iff.1 hbc).1).trans hbc,rfl,fun _ _=>rfl⟩⟩,.bool true⟩
open Go.ChangeShapes Go.WideShapes Go.ChangeAt
theorem LJ {H:Type} {enc:TypeId×Value→H} {P:Program} {f:Func} {s:ChangeSpec} {apart fresh handsOn again:Bool} {W W':World} {args:Array Value} {v:Value} {ds gs:List (DataW H)} {before pa pv:List MemPlace}
  (hW:DataW.Whole enc P f.params.toList s.vars apart W args.toList ds gs before) (hb:Below W.heap.size W W')
  (hres:∀ (b:Nat) (sp:Nat→Bool) (hd:Bool),DataW.TrodAll enc P W' b sp hd f.resultTypes.toList (v.resultList f.resultTypes.size) (s.fn H (ds++gs)).results [])
  (hargs:∀ sp:Nat→Bool,(∀ p∈before,sp p.block=true)→DataW.TrodAll enc P W' 0 sp true f.params.toList args.toList (s.fn H (ds++gs)).args pa)
  (hvars:∀ sp:Nat→Bool,(∀ p∈before,sp p.block=true)→DataW.TrodVars enc P W' sp s.vars (s.fn H (ds++gs)).vars pv)
  (hps:before=pa++pv)
  (hok:∀ (j:Nat) (t:TypeId) (r:Value),f.resultTypes[j]?=some t→(v.resultList f.resultTypes.size)[j]?=some r→Value.okWide P W' .any 0 t r) :
  s.post enc P f apart fresh handsOn again W args v W':=by
 have hlt:∀ p∈before,p.block<W.heap.size:=fun p hp=>by simpa using hW.lt p hp
 have hd:∀ p∈before,(fun b=>decide (b<W.heap.size)) p.block=true:=fun p hp=>by simpa using hlt p hp
 have ht:∀ p∈before,(fun _:Nat=>true) p.block=true:=fun _ _=>rfl
 refine ⟨ds,gs,before,[],pa,pv,hW,hres _ _ _,hargs _ hd,hvars _ hd,hb.frame _,fun _=>⟨hok,(s.fn H (ds++gs)).results++(s.fn H (ds++gs)).args,(s.fn H (ds++gs)).vars,before,⟨pa,pv,trodAll_append (hargs _ ht) (hres _ _ _),hvars _ ht,hps,fun b off hp=>?_,?_⟩,fun p hp _=>hp⟩⟩
 ·obtain ⟨_,_,_,_,_,hz,_⟩:=hW
  exact (hb.frozen (hlt _ hp)).trans (hz b off hp)
 ·obtain ⟨_,_,_,_,_,_,hn⟩:=hW
  exact hn
theorem own:ownKnob Tryz.prog.godebug=none:=by kernel_rfl
theorem laidOut:laidOutB Tryz.prog=true:=by kernel_rfl
set_option maxRecDepth 100000 in
theorem contract (H:Type) (enc:TypeId×Value→H) (W:World) (args:Array Value) (ds gs:List (DataW H)) (before:List MemPlace) (base:Nat)
  (hval:∀ (j:Nat) t v,Tryz.f3.params[j]?=some t→args[j]?=some v→Value.okWide Tryz.prog W .any base t v)
  (hW:DataW.Whole enc Tryz.prog Tryz.f3.params.toList Rows.decideDominatesSpec.vars false W args.toList ds gs before) (hL:laidMetH Tryz.prog Rows.decideDominatesRow.laid W)
  (hz:(DataW.weightsEach Tryz.prog (Tryz.f3.params.toList++(OpenSpec.ofChange Rows.decideDominatesSpec).bare.plain.varTypes Tryz.prog) (ds++gs)).all (·≤reachBytes)=true) :
  Calls Tryz.prog 3 args W fun e W'=>∃ v,e = .returned v∧Rows.decideDominatesSpec.post enc Tryz.prog Tryz.f3 false true false false W args v W':=by
 have hW':=hW
 obtain ⟨p,q,hA0,hV,rfl,hfz,hnd⟩:=hW
 have hA:DataW.TrodAll enc Tryz.prog W 0 (fun _=>true) true Tryz.f3.params.toList args.toList ds p:=hA0
 rw [Tryz.params3] at hA hval hz
 obtain ⟨v0,vs0,d0,ds0,p0,q0,hargs,rfl,rfl,h0,r0⟩:=trodAll_cons hA
 obtain ⟨rfl,rfl,rfl⟩:=trodAll_nil r0
 obtain rfl:args=#[v0]:=by cases args;simp_all
 obtain ⟨rfl,rfl⟩:=trodVars_none hV
 clear hA0 hA
 obtain ⟨l,hb,hi⟩:=afL (hval 0 22 v0 rfl rfl) h0
 refine ((Tryz.ag2 alive_pure l hi).calls (fun b=>b<W.heap.size) W #[v0] (gok hL) (fun _ h=>h) rfl (fun i u d' hu hd=>?_)).mono fun e W' ⟨v,he,hf,hr⟩=>?_
 ·match i with
  | 0=>simp at hu hd;subst hu;subst hd;exact hb
  | i+1=>simp at hu
 have hg:Below W.heap.size W W':=⟨hf.os,hf.tape,hf.output,hf.size,fun b hb=>hf.jT b hb⟩
 subst he
 have hv:v = .bool true:=by cases hr;rfl
 subst hv
 have hlt:∀ x∈p0++[]++[],x.block<W.heap.size:=fun x hx=>by simpa using hW'.lt x hx
 refine ⟨_,rfl,LJ (pa:=p0++[]) (pv:=[]) hW' hg (fun _ _ _=>trodAll_cons_mk (shut_bool Tryz.underlying4 _) trodAll_mk0) (fun sp hs=>?_) (fun _ _=>rfl) rfl (ok_one (by kernel_rfl) rfl (okWide_bool_mk Tryz.underlying4 _))⟩
 have e0:=WideElems.Trod_stays (sp':=sp) (W':=W') laidOut (by kernel_rfl) (of_decide_eq_true (by kernel_rfl)) h0 (fun x hx=>hg.same (hlt x (by simp [hx]))) (fun x hx=>hs x (by simp [hx]))
 exact trodAll_cons_mk e0 trodAll_mk0
end Go.Proofs.YthckjidmpbiccaaGreatDoor
namespace Go.Proofs.YthckjidmpbiccaaGreatDoor
open Go Go.RowKit
theorem goes_none:Tryz.prog.funcs.toList.any Func.goes=false:=by kernel_rfl
theorem VB (P:Program) (h:P.funcs.toList.any Func.goes=false) (f:FuncId):P.goes f=false:=by
 have h0:∀ g:Nat,(P.funcs[g]?).any Func.goes=false:=fun g=>by
  cases hg:P.funcs[g]? with
  | none=>rfl
  | some fn=>
    have hm:fn∈P.funcs.toList:=by
     have:=Array.mem_of_getElem? hg
     simpa using this
    simpa using List.any_eq_false.1 h fn hm
 unfold Program.goes
 rw [← Array.any_toList,h,Bool.and_false,Bool.or_false,List.any_eq_false]
 intro g _
 simp [h0 g]
theorem VA (P:Program) (h:P.funcs.toList.any Func.goes=false) (c:OpenClaim) (hs:c.start = .entering):false=c.goesBy P:=by
 have e:P.goesFrom c.func=false:=by
  unfold Program.goesFrom
  cases P.funcNamed c.func with
  | none=>rfl
  | some f=>exact VB P h f
 unfold OpenClaim.goesBy Program.goesAt
 rw [e,hs];rfl
theorem goes_by:false=Rows.decideDominatesRow.goesBy Tryz.prog:=VA _ goes_none _ rfl
end Go.Proofs.YthckjidmpbiccaaGreatDoor
