/- CompileGroups: what alive() answers; what the law answers, whatever it is given. -/
import Derived.Test.YtdonenoiehdahaaGreatSimZOne
import Derived.Test.YtdonenoiehdahaaGreatSrtDAnd
import Derived.Test.YtdonenoiehdahaaGreatRows
import Derived.WalkKit
import Derived.ProofKit
import Derived.OpenShut
import Derived.Deep.DeepHandedRow
import Derived.SizedLaws
set_option linter.all false
namespace Go.Proofs.YtdonenoiehdahaaGreat
open Go Go.RowKit
set_option maxRecDepth 100000 in
theorem alive_pure:Abs.Pure Tryz.prog 8 [] [.bool true]:=by
 refine ⟨⟨_,Tryz.func8,by kernel_rfl,rfl⟩,fun ok w vs hgl hokb hsz hrd=>?_⟩;obtain rfl:vs=#[]:=Array.eq_empty_of_size_eq_zero hsz;refine (Rn w).mono ?_;rintro e w' ⟨rfl,hb⟩;exact ⟨_,rfl,⟨hb.os,hb.tape,hb.output,hb.size,fun b hb' _=>hb.block b hb',fun b c T fz hbc=>⟨c,(hb.block b (Array.getElem?_eq_some_iff.1 hbc).1).trans hbc,rfl,fun _ _=>rfl⟩⟩,.bool true⟩
theorem gok (w:World):Abs.GOK (fun b=>b<w.heap.size) w:=fun g h=>absurd (Abs.acE g) h
open Go.ChangeShapes Go.WideShapes Go.ChangeAt
theorem Qa {H:Type} {enc:TypeId×Value→H} {P:Program} {f:Func} {s:ChangeSpec} {apart fresh handsOn again:Bool} {W W':World} {args:Array Value} {v:Value} {ds gs:List (DataW H)} {before pa pv:List MemPlace}
  (hW:DataW.Whole enc P f.params.toList s.vars apart W args.toList ds gs before) (hb:Below W.heap.size W W')
  (hres:∀ (b:Nat) (sp:Nat→Bool) (hd:Bool),DataW.TrodAll enc P W' b sp hd f.resultTypes.toList (v.resultList f.resultTypes.size) (s.fn H (ds++gs)).results [])
  (hargs:∀ sp:Nat→Bool,(∀ p∈before,sp p.block=true)→DataW.TrodAll enc P W' 0 sp true f.params.toList args.toList (s.fn H (ds++gs)).args pa)
  (hvars:∀ sp:Nat→Bool,(∀ p∈before,sp p.block=true)→DataW.TrodVars enc P W' sp s.vars (s.fn H (ds++gs)).vars pv)
  (hps:before=pa++pv)
  (hok:∀ (j:Nat) (t:TypeId) (r:Value),f.resultTypes[j]?=some t→(v.resultList f.resultTypes.size)[j]?=some r→Value.okWide P W' .any 0 t r) :
  s.post enc P f apart fresh handsOn again W args v W':=by
 have hlt:∀ p∈before,p.block<W.heap.size:=fun p hp=>by simpa using hW.lt p hp
 have hd:∀ p∈before,(fun b=>decide (b<W.heap.size)) p.block=true:=fun p hp=>by simpa using hlt p hp
 have ht:∀ p∈before,(fun _:Nat=>true) p.block=true:=fun _ _=>rfl
 refine ⟨ds,gs,before,[],pa,pv,hW,hres _ _ _,hargs _ hd,hvars _ hd,hb.frame _,fun _=>⟨hok,(s.fn H (ds++gs)).results++(s.fn H (ds++gs)).args,(s.fn H (ds++gs)).vars,before,⟨pa,pv,trodAll_append (hargs _ ht) (hres _ _ _),hvars _ ht,hps,fun b off hp=>?_,?_⟩,fun p hp _=>hp⟩⟩
 ·obtain ⟨_,_,_,_,_,hz,_⟩:=hW;exact (hb.frozen (hlt _ hp)).trans (hz b off hp)
 ·obtain ⟨_,_,_,_,_,_,hn⟩:=hW;exact hn
theorem own:ownKnob Tryz.prog.godebug=none:=by kernel_rfl
theorem laidOut:laidOutB Tryz.prog=true:=by kernel_rfl
set_option maxRecDepth 100000 in
theorem contract (H:Type) (enc:TypeId×Value→H) (W:World) (args:Array Value) (ds gs:List (DataW H)) (before:List MemPlace) (base:Nat)
  (hval:∀ (j:Nat) t v,Tryz.f3.params[j]?=some t→args[j]?=some v→Value.okWide Tryz.prog W .any base t v)
  (hW:DataW.Whole enc Tryz.prog Tryz.f3.params.toList Rows.compileGroupsSpec.vars false W args.toList ds gs before)
  (hz:(DataW.weightsEach Tryz.prog (Tryz.f3.params.toList++(OpenSpec.ofChange Rows.compileGroupsSpec).bare.plain.varTypes Tryz.prog) (ds++gs)).all (·≤reachBytes)=true) :
  Calls Tryz.prog 3 args W fun e W'=>∃ v,e = .returned v∧Rows.compileGroupsSpec.post enc Tryz.prog Tryz.f3 false true false false W args v W':=by
 have hW':=hW;obtain ⟨p,q,hA0,hV,rfl,hfz,hnd⟩:=hW;have hA:DataW.TrodAll enc Tryz.prog W 0 (fun _=>true) true Tryz.f3.params.toList args.toList ds p:=hA0;rw [Tryz.params3] at hA hval hz;obtain ⟨v0,vs0,d0,ds0,p0,q0,hargs,rfl,rfl,h0,r0⟩:=trodAll_cons hA;obtain ⟨v1,vs1,d1,ds1,p1,q1,rfl,rfl,rfl,h1,r1⟩:=trodAll_cons r0;obtain ⟨v2,vs2,d2,ds2,p2,q2,rfl,rfl,rfl,h2,r2⟩:=trodAll_cons r1;obtain ⟨rfl,rfl,rfl⟩:=trodAll_nil r2;obtain rfl:args=#[v0,v1,v2]:=by cases args;simp_all
 obtain ⟨rfl,rfl⟩:=trodVars_none hV;clear hA0 hA;have hwt:∀ x,x∈DataW.weightsEach Tryz.prog [25,22,4] [d0,d1,d2]→x≤reachBytes:=fun x hm=>
  of_decide_eq_true (List.all_eq_true.1 hz x hm)
 have hw0:Light 25 d0:=fun x hx=>hwt x (by
  simp only [DataW.weightsEach]
  exact List.mem_append_left _ hx)
 have hw1:Light 22 d1:=fun x hx=>hwt x (by
  simp only [DataW.weightsEach]
  exact List.mem_append_right _ (List.mem_append_left _ hx))
 obtain ⟨atoms,rules,hb,hok,g1,g2,g3⟩:=UR (hval 0 25 v0 rfl rfl) h0 hw0;obtain ⟨names,hn,hokn,g4⟩:=Wq (hval 1 22 v1 rfl rfl) h1 hw1;obtain ⟨bb,rfl⟩:=okWide_bool Tryz.underlying4 (hval 2 4 v2 rfl rfl);have hR:reachBytes≤4000000000000000000:=by decide
 refine ((Tryz.compileGroups PU alive_pure atoms rules names bb hok (by omega) (by omega) (fun r hr=>by have:=g3 r hr;omega) hokn (by omega)).calls (fun b=>b<W.heap.size) W #[v0,v1,.bool bb] (gok W) (fun _ h=>h) rfl (fun i u d' hu hd=>?_)).mono fun e W' ⟨v,he,hf,hr⟩=>?_
 ·match i with
  | 0=>simp at hu hd;subst hu;subst hd;exact hb
  | 1=>simp at hu hd;subst hu;subst hd;exact hn
  | 2=>simp at hu hd;subst hu;subst hd;exact .bool _
  | i+3=>simp at hu
 have hg:Below W.heap.size W W':=⟨hf.os,hf.tape,hf.output,hf.size,fun b hb=>hf.lT b hb⟩;subst he;have hv:v = .bool true:=by cases hr;rfl
 subst hv;have hlt:∀ x∈p0++(p1++(p2++[]))++[],x.block<W.heap.size:=fun x hx=>by simpa using hW'.lt x hx
 refine ⟨_,rfl,Qa (pa:=p0++(p1++(p2++[]))) (pv:=[]) hW' hg (fun _ _ _=>trodAll_cons_mk (shut_bool Tryz.underlying4 _) trodAll_mk0) (fun sp hs=>?_) (fun _ _=>rfl) rfl (ok_one (by kernel_rfl) rfl (okWide_bool_mk Tryz.underlying4 _))⟩;have e0:=WideElems.Trod_stays (sp':=sp) (W':=W') laidOut (by kernel_rfl) (of_decide_eq_true (by kernel_rfl)) h0 (fun x hx=>hg.same (hlt x (by simp [hx]))) (fun x hx=>hs x (by simp [hx]));have e1:=WideElems.Trod_stays (sp':=sp) (W':=W') laidOut (by kernel_rfl) (of_decide_eq_true (by kernel_rfl)) h1 (fun x hx=>hg.same (hlt x (by simp [hx]))) (fun x hx=>hs x (by simp [hx]));have e2:=WideElems.Trod_stays (sp':=sp) (W':=W') laidOut (by kernel_rfl) (of_decide_eq_true (by kernel_rfl)) h2 (fun x hx=>hg.same (hlt x (by simp [hx]))) (fun x hx=>hs x (by simp [hx]));exact trodAll_cons_mk e0 (trodAll_cons_mk e1 (trodAll_cons_mk e2 trodAll_mk0))
end Go.Proofs.YtdonenoiehdahaaGreat
namespace Go.Proofs.YtdonenoiehdahaaGreat
open Go Go.RowKit Go.ChangeShapes Go.WideShapes Go.ChangeAt
theorem laid_met (W:World):laidMet Tryz.prog Rows.compileGroupsRow.laid W:=⟨[],rfl,List.nodup_nil,fun _ _ h=>by cases h⟩
theorem reads (os:Os) {H:Type} (enc:TypeId×Value→H):∃ places,DataW.whole enc Tryz.prog ((World.holding Tryz.prog os ⟨#[],#[],[]⟩).forCall (fun _ _=>0) ⟨#[],#[.agg #[.slice none 0 0,.slice none 0 0],.slice none 0 0,.bool false],[]⟩).memory Tryz.f3.params.toList Rows.compileGroupsSpec.vars false #[Value.agg #[.slice none 0 0,.slice none 0 0],.slice none 0 0,.bool false].toList 8=some ([.agg [.nil,.nil],.nil,.lit (.bool false)],[],places):=
 ⟨[],by kernel_rfl⟩
set_option maxRecDepth 100000 in
theorem lifted (os:Os) (started:os.Started) (H:Type) (enc:TypeId×Value→H) (F:Stop.Interp) :
  ReturnsInHanded {} Tryz.checked os 3 .any ((OpenSpec.ofChange Rows.compileGroupsSpec).preRow enc Tryz.prog Tryz.f3 Rows.compileGroupsRow.domain false Rows.compileGroupsRow.laid) (((OpenSpec.ofChange Rows.compileGroupsSpec).at F).post enc Tryz.prog Tryz.f3 false true false false):=by
 obtain ⟨places,hx⟩:=reads os enc;refine returnsInHanded_of_row (C:=Tryz.checked) (s:=OpenSpec.ofChange Rows.compileGroupsSpec) own started (by kernel_rfl) Tryz.func3
  (witness_row_at (enc:=enc) (C:=Tryz.checked) false (World.holding Tryz.prog os ⟨#[],#[],[]⟩) #[.agg #[.slice none 0 0,.slice none 0 0],.slice none 0 0,.bool false] rfl (by kernel_rfl) (by kernel_rfl) (by kernel_rfl)
   (OpenSpec.preRow_of_cond 8 hx (by kernel_rfl) (fun k hk=>by cases hk) (by kernel_rfl) (laid_met _))) ?_
 intro W base args ds gs before hval hW _ _ hz _ _ _;exact contract H enc W args ds gs before base hval hW hz
theorem band {a b:Bool} (h:a=true) (k:b=true):(a&&b)=true:=by rw [h,k];rfl
theorem j_inPlace:(Rows.compileGroupsRow.inPlace==Tryz.pinned.checked.prog.inPlace 3)=true:=by kernel_rfl
theorem j_unf:(Rows.compileGroupsRow.unfollowed==Tryz.pinned.checked.prog.unfollowed 3)=true:=by kernel_rfl
theorem j_rec:(Rows.compileGroupsRow.recurses==Tryz.pinned.checked.prog.recurses 3)=true:=by kernel_rfl
theorem j_named:(Rows.compileGroupsRow.named==Tryz.pinned.checked.prog.varsNamed 3)=true:=by kernel_rfl
theorem j_lift:(Rows.compileGroupsRow.lifted==Tryz.pinned.checked.prog.liftsFinal)=true:=by kernel_rfl
theorem Xk:joinedFacts Tryz.pinned.checked.prog 3 Tryz.f3 (OpenSpec.ofChange Rows.compileGroupsSpec).bare Rows.compileGroupsRow=true:=by
 unfold joinedFacts;exact band (band (band (band (band (band (band (band (band (band (band (band (band (band (band (band (band (band (band (band (band (band (band (by kernel_rfl) j_inPlace) j_unf) j_rec) j_named) (by kernel_rfl)) (by kernel_rfl)) (by kernel_rfl)) (by kernel_rfl)) (by kernel_rfl)) (by kernel_rfl)) (by kernel_rfl)) (by kernel_rfl)) (by kernel_rfl)) (by kernel_rfl)) (by kernel_rfl)) (by kernel_rfl)) (by kernel_rfl)) j_lift) (by kernel_rfl)) (by kernel_rfl)) (by kernel_rfl)) (by kernel_rfl)) (by kernel_rfl)
set_option maxRecDepth 100000 in
theorem said:Rows.CompileGroupsSaid:=
 OpenClaim.holds_of_cond 3 Tryz.f3 rfl rfl rfl rfl rfl rfl rfl ⟨rfl,rfl,rfl,rfl,rfl⟩ rfl rfl rfl rfl rfl (by kernel_rfl) Tryz.func3 Xk
  (of_decide_eq_true (by kernel_rfl)) (by unfold Func.isWrapper;first | (rw [if_pos (by decide +kernel)];kernel_rfl) | (rw [if_neg (by decide +kernel)];exact ⟨rfl,rfl⟩))
  (fun os started H enc _ F=>by rw [OpenClaim.pre_eq_preRow];exact lifted os started H enc F)
#print axioms said
end Go.Proofs.YtdonenoiehdahaaGreat
