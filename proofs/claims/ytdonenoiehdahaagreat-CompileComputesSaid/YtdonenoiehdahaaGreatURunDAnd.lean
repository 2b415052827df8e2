/- CompileComputes: what the law answers, whatever it is given. -/
import Derived.Test.YtdonenoiehdahaaGreatLtBAnd
import Derived.Test.YtdonenoiehdahaaGreatLuHAnd
import Derived.Test.YtdonenoiehdahaaGreatRows
import Derived.WalkKit
import Derived.ProofKit
import Derived.OpenShut
import Derived.Deep.DeepHandedRow
import Derived.SizedLaws
set_option linter.all false
namespace Go.Proofs.YtdonenoiehdahaaGreat
open Go Go.RowKit
theorem gok (w:World):Abs.GOK (fun b=>b<w.heap.size) w:=fun g h=>absurd (Abs.Zk g) h
open Go.ChangeShapes Go.WideShapes Go.ChangeAt
theorem OC {H:Type} {enc:TypeId×Value→H} {P:Program} {f:Func} {s:ChangeSpec} {apart fresh handsOn again:Bool} {W W':World} {args:Array Value} {v:Value} {ds gs:List (DataW H)} {before pa pv:List MemPlace}
  (hW:DataW.Whole enc P f.params.toList s.vars apart W args.toList ds gs before) (hb:Below W.heap.size W W')
  (hres:∀ (b:Nat) (sp:Nat→Bool) (hd:Bool),DataW.TrodAll enc P W' b sp hd f.resultTypes.toList (v.resultList f.resultTypes.size) (s.fn H (ds++gs)).results [])
  (hargs:∀ sp:Nat→Bool,(∀ p∈before,sp p.block=true)→DataW.TrodAll enc P W' 0 sp true f.params.toList args.toList (s.fn H (ds++gs)).args pa)
  (hvars:∀ sp:Nat→Bool,(∀ p∈before,sp p.block=true)→DataW.TrodVars enc P W' sp s.vars (s.fn H (ds++gs)).vars pv)
  (hps:before=pa++pv)
  (hok:∀ (j:Nat) (t:TypeId) (r:Value),f.resultTypes[j]?=some t→(v.resultList f.resultTypes.size)[j]?=some r→Value.okWide P W' .any 0 t r) :
  s.post enc P f apart fresh handsOn again W args v W':=by
 have hlt:∀ p∈before,p.block<W.heap.size:=fun p hp=>by simpa using hW.lt p hp
 have hd:∀ p∈before,(fun b=>decide (b<W.heap.size)) p.block=true:=fun p hp=>by simpa using hlt p hp
 have ht:∀ p∈before,(fun _:Nat=>true) p.block=true:=fun _ _=>rfl
 refine ⟨ds,gs,before,[],pa,pv,hW,hres _ _ _,hargs _ hd,hvars _ hd,hb.frame _,fun _=>⟨hok,(s.fn H (ds++gs)).results++(s.fn H (ds++gs)).args,(s.fn H (ds++gs)).vars,before,⟨pa,pv,trodAll_append (hargs _ ht) (hres _ _ _),hvars _ ht,hps,fun b off hp=>?_,?_⟩,fun p hp _=>hp⟩⟩
 ·obtain ⟨_,_,_,_,_,hz,_⟩:=hW;exact (hb.frozen (hlt _ hp)).trans (hz b off hp)
 ·obtain ⟨_,_,_,_,_,_,hn⟩:=hW;exact hn
set_option maxRecDepth 100000 in
theorem Ur {H:Type} {enc:TypeId×Value→H} {W:World} {held:Bool} {r:Reach} {b0:Nat} {v:Value} {d:DataW H} {p:List MemPlace} (hval:Value.okWide Tryz.prog W r b0 49 v) (h:DataW.Trod enc Tryz.prog W 0 (fun _=>true) held 49 v d p) :
  ∃ sa sb:Nat,sa<18446744073709551616∧sb<18446744073709551616∧v = .agg #[.int .u64 sa,.int .u64 sb]:=by
 have k1:Tryz.prog.cellsOf 47=1:=by kernel_rfl
 have k2:Tryz.prog.cellsOf 49=2:=by kernel_rfl
 obtain ⟨vs,rfl,hsz⟩:=okWide_struct Tryz.underlying49 hval;obtain ⟨fuel,h⟩:=h;obtain ⟨y0,y1,m,hx,hl,h0,h1⟩:=trod_struct2 Tryz.underlying49 h;rw [k2] at hsz;obtain ⟨c0,c1,rfl⟩:∃ c0 c1,vs=#[c0,c1]:=by
  match vs,hsz with
  | ⟨[c0,c1]⟩,_=>exact ⟨c0,c1,rfl⟩
 have h0:DataW.trod enc Tryz.prog W 0 (fun _=>true) held m 47 [c0]=some y0:=by
  rw [k1] at h0;exact h0
 have h1:DataW.trod enc Tryz.prog W 0 (fun _=>true) held m 47 [c1]=some y1:=by
  rw [k1] at h1;exact h1
 have wf:∀ {n:Int},(Lit.int .u64 n).wf=true→∃ a:Nat,a<18446744073709551616∧n=(a:Nat):=fun {n} h=>by
  simp [Lit.wf,IntKind.min,IntKind.max,IntKind.bits,IntKind.signed] at h;exact ⟨n.toNat,by omega,by omega⟩
 obtain ⟨z0,e0,_,g0⟩:=DataW.trod_int Tryz.underlying47 h0;obtain ⟨z1,e1,_,g1⟩:=DataW.trod_int Tryz.underlying47 h1;obtain ⟨a,ha,rfl⟩:=wf g0;obtain ⟨b,hb,rfl⟩:=wf g1;cases e0;cases e1;exact ⟨a,b,ha,hb,rfl⟩
theorem own:ownKnob Tryz.prog.godebug=none:=by kernel_rfl
theorem laidOut:laidOutB Tryz.prog=true:=by kernel_rfl
theorem ZR {ok:Nat→Prop} {W:World} (a b:Int):Abs.RdD ok W (.agg #[.int .u64 a,.int .u64 b]) (.agg [.int .u64 a,.int .u64 b]):=by
 refine .agg _ _ rfl (fun i v c hv hc=>?_) (fun i v c hv hc=>?_)
 ·match i,hv,hc with
  | 0,hv,hc=>cases hv;cases hc;exact .int _ _
  | 1,hv,hc=>cases hv;cases hc;exact .int _ _
  | i+2,hv,hc=>simp at hc
 ·match i,hv,hc with
  | 0,hv,hc=>cases hv;cases hc;exact ⟨rfl,rfl⟩
  | 1,hv,hc=>cases hv;cases hc;exact ⟨rfl,rfl⟩
  | i+2,hv,hc=>simp at hc
set_option maxRecDepth 100000 in
theorem contract (H:Type) (enc:TypeId×Value→H) (W:World) (args:Array Value) (ds gs:List (DataW H)) (before:List MemPlace) (base:Nat)
  (hval:∀ (j:Nat) t v,Tryz.f5.params[j]?=some t→args[j]?=some v→Value.okWide Tryz.prog W .any base t v)
  (hW:DataW.Whole enc Tryz.prog Tryz.f5.params.toList Rows.compileComputesSpec.vars false W args.toList ds gs before)
  (hz:(DataW.weightsEach Tryz.prog (Tryz.f5.params.toList++(OpenSpec.ofChange Rows.compileComputesSpec).bare.plain.varTypes Tryz.prog) (ds++gs)).all (·≤reachBytes)=true) :
  Calls Tryz.prog 5 args W fun e W'=>∃ v,e = .returned v∧Rows.compileComputesSpec.post enc Tryz.prog Tryz.f5 false true false false W args v W':=by
 have hW':=hW;obtain ⟨p,q,hA0,hV,rfl,hfz,hnd⟩:=hW;have hA:DataW.TrodAll enc Tryz.prog W 0 (fun _=>true) true Tryz.f5.params.toList args.toList ds p:=hA0;rw [Tryz.params5] at hA hval hz;obtain ⟨v0,vs0,d0,ds0,p0,q0,hargs,rfl,rfl,h0,r0⟩:=trodAll_cons hA;obtain ⟨v1,vs1,d1,ds1,p1,q1,rfl,rfl,rfl,h1,r1⟩:=trodAll_cons r0;obtain ⟨v2,vs2,d2,ds2,p2,q2,rfl,rfl,rfl,h2,r2⟩:=trodAll_cons r1;obtain ⟨rfl,rfl,rfl⟩:=trodAll_nil r2;obtain rfl:args=#[v0,v1,v2]:=by cases args;simp_all
 obtain ⟨rfl,rfl⟩:=trodVars_none hV;clear hA0 hA;have hwt:∀ x,x∈DataW.weightsEach Tryz.prog [25,22,49] [d0,d1,d2]→x≤reachBytes:=fun x hm=>
  of_decide_eq_true (List.all_eq_true.1 hz x hm)
 have hw0:Light 25 d0:=fun x hx=>hwt x (by
  simp only [DataW.weightsEach]
  exact List.mem_append_left _ hx)
 have hw1:Light 22 d1:=fun x hx=>hwt x (by
  simp only [DataW.weightsEach]
  exact List.mem_append_right _ (List.mem_append_left _ hx))
 obtain ⟨atoms,rules,hb,hok,g1,g2,g3⟩:=RZ (hval 0 25 v0 rfl rfl) h0 hw0;obtain ⟨names,hn,hokn,g4⟩:=Us (hval 1 22 v1 rfl rfl) h1 hw1;obtain ⟨sa,sb,hsa,hsb,rfl⟩:=Ur (hval 2 49 v2 rfl rfl) h2;have hR:reachBytes≤4000000000000000000:=by decide
 refine ((Tryz.compileComputes Tryz.alive atoms rules names sa sb hsa hsb hok (by omega) (by omega) (fun r hr=>by have:=g3 r hr;omega) hokn (by omega)).calls (fun b=>b<W.heap.size) W #[v0,v1,.agg #[.int .u64 sa,.int .u64 sb]] (gok W) (fun _ h=>h) rfl (fun i u d' hu hd=>?_)).mono fun e W' ⟨v,he,hf,hr⟩=>?_
 ·match i with
  | 0=>simp at hu hd;subst hu;subst hd;exact hb
  | 1=>simp at hu hd;subst hu;subst hd;exact hn
  | 2=>simp at hu hd;subst hu;subst hd;exact ZR _ _
  | i+3=>simp at hu
 have hg:Below W.heap.size W W':=⟨hf.os,hf.tape,hf.output,hf.size,fun b hb=>hf.lX b hb⟩;subst he;have hv:v = .bool true:=by cases hr;rfl
 subst hv;have hlt:∀ x∈p0++(p1++(p2++[]))++[],x.block<W.heap.size:=fun x hx=>by simpa using hW'.lt x hx
 refine ⟨_,rfl,OC (pa:=p0++(p1++(p2++[]))) (pv:=[]) hW' hg (fun _ _ _=>trodAll_cons_mk (shut_bool Tryz.underlying4 _) trodAll_mk0) (fun sp hs=>?_) (fun _ _=>rfl) rfl (ok_one (by kernel_rfl) rfl (okWide_bool_mk Tryz.underlying4 _))⟩;have e0:=WideElems.Trod_stays (sp':=sp) (W':=W') laidOut (by kernel_rfl) (of_decide_eq_true (by kernel_rfl)) h0 (fun x hx=>hg.same (hlt x (by simp [hx]))) (fun x hx=>hs x (by simp [hx]));have e1:=WideElems.Trod_stays (sp':=sp) (W':=W') laidOut (by kernel_rfl) (of_decide_eq_true (by kernel_rfl)) h1 (fun x hx=>hg.same (hlt x (by simp [hx]))) (fun x hx=>hs x (by simp [hx]));have e2:=WideElems.Trod_stays (sp':=sp) (W':=W') laidOut (by kernel_rfl) (of_decide_eq_true (by kernel_rfl)) h2 (fun x hx=>hg.same (hlt x (by simp [hx]))) (fun x hx=>hs x (by simp [hx]));exact trodAll_cons_mk e0 (trodAll_cons_mk e1 (trodAll_cons_mk e2 trodAll_mk0))
end Go.Proofs.YtdonenoiehdahaaGreat
namespace Go.Proofs.YtdonenoiehdahaaGreat
open Go Go.RowKit Go.ChangeShapes Go.WideShapes Go.ChangeAt
theorem laid_met (W:World):laidMet Tryz.prog Rows.compileComputesRow.laid W:=⟨[],rfl,List.nodup_nil,fun _ _ h=>by cases h⟩
theorem reads (os:Os) {H:Type} (enc:TypeId×Value→H):∃ places,DataW.whole enc Tryz.prog ((World.holding Tryz.prog os ⟨#[],#[],[]⟩).forCall (fun _ _=>0) ⟨#[],#[.agg #[.slice none 0 0,.slice none 0 0],.slice none 0 0,.agg #[.int .u64 0,.int .u64 0]],[]⟩).memory Tryz.f5.params.toList Rows.compileComputesSpec.vars false #[Value.agg #[.slice none 0 0,.slice none 0 0],.slice none 0 0,.agg #[.int .u64 0,.int .u64 0]].toList 8=some ([.agg [.nil,.nil],.nil,.agg [.lit (.int .u64 0),.lit (.int .u64 0)]],[],places):=
 ⟨[],by kernel_rfl⟩
set_option maxRecDepth 100000 in
theorem lifted (os:Os) (started:os.Started) (H:Type) (enc:TypeId×Value→H) (F:Stop.Interp) :
  ReturnsInHanded {} Tryz.checked os 5 .any ((OpenSpec.ofChange Rows.compileComputesSpec).preRow enc Tryz.prog Tryz.f5 Rows.compileComputesRow.domain false Rows.compileComputesRow.laid) (((OpenSpec.ofChange Rows.compileComputesSpec).at F).post enc Tryz.prog Tryz.f5 false true false false):=by
 obtain ⟨places,hx⟩:=reads os enc;refine returnsInHanded_of_row (C:=Tryz.checked) (s:=OpenSpec.ofChange Rows.compileComputesSpec) own started (by kernel_rfl) Tryz.func5
  (witness_row_at (enc:=enc) (C:=Tryz.checked) false (World.holding Tryz.prog os ⟨#[],#[],[]⟩) #[.agg #[.slice none 0 0,.slice none 0 0],.slice none 0 0,.agg #[.int .u64 0,.int .u64 0]] rfl (by kernel_rfl) (by kernel_rfl) (by kernel_rfl)
   (OpenSpec.preRow_of_cond 8 hx (by kernel_rfl) (fun k hk=>by cases hk) (by kernel_rfl) (laid_met _))) ?_
 intro W base args ds gs before hval hW _ _ hz _ _ _;exact contract H enc W args ds gs before base hval hW hz
theorem band {a b:Bool} (h:a=true) (k:b=true):(a&&b)=true:=by rw [h,k];rfl
theorem j_inPlace:(Rows.compileComputesRow.inPlace==Tryz.pinned.checked.prog.inPlace 5)=true:=by kernel_rfl
theorem j_unf:(Rows.compileComputesRow.unfollowed==Tryz.pinned.checked.prog.unfollowed 5)=true:=by kernel_rfl
theorem j_rec:(Rows.compileComputesRow.recurses==Tryz.pinned.checked.prog.recurses 5)=true:=by kernel_rfl
theorem j_named:(Rows.compileComputesRow.named==Tryz.pinned.checked.prog.varsNamed 5)=true:=by kernel_rfl
theorem j_lift:(Rows.compileComputesRow.lifted==Tryz.pinned.checked.prog.liftsFinal)=true:=by kernel_rfl
theorem U1:joinedFacts Tryz.pinned.checked.prog 5 Tryz.f5 (OpenSpec.ofChange Rows.compileComputesSpec).bare Rows.compileComputesRow=true:=by
 unfold joinedFacts;exact band (band (band (band (band (band (band (band (band (band (band (band (band (band (band (band (band (band (band (band (band (band (band (by kernel_rfl) j_inPlace) j_unf) j_rec) j_named) (by kernel_rfl)) (by kernel_rfl)) (by kernel_rfl)) (by kernel_rfl)) (by kernel_rfl)) (by kernel_rfl)) (by kernel_rfl)) (by kernel_rfl)) (by kernel_rfl)) (by kernel_rfl)) (by kernel_rfl)) (by kernel_rfl)) (by kernel_rfl)) j_lift) (by kernel_rfl)) (by kernel_rfl)) (by kernel_rfl)) (by kernel_rfl)) (by kernel_rfl)
set_option maxRecDepth 100000 in
theorem said:Rows.CompileComputesSaid:=
 OpenClaim.holds_of_cond 5 Tryz.f5 rfl rfl rfl rfl rfl rfl rfl ⟨rfl,rfl,rfl,rfl,rfl⟩ rfl rfl rfl rfl rfl (by kernel_rfl) Tryz.func5 U1
  (of_decide_eq_true (by kernel_rfl)) (by unfold Func.isWrapper;first | (rw [if_pos (by decide +kernel)];kernel_rfl) | (rw [if_neg (by decide +kernel)];exact ⟨rfl,rfl⟩))
  (fun os started H enc _ F=>by rw [OpenClaim.pre_eq_preRow];exact lifted os started H enc F)
#print axioms said
end Go.Proofs.YtdonenoiehdahaaGreat
