/- InfosetCertain: the arguments as data. -/
import Derived.Test.YtdbkblcekmogkaaGreatDoorOwnGAnd
import Derived.Deep.Matrix
import Derived.Test.YtdbkblcekmogkaaGreatDoorRunAAnd
import Derived.Test.YtdbkblcekmogkaaGreatDoorSimDA24And
set_option linter.unusedVariables false
set_option linter.unusedSimpArgs false
set_option linter.all false
namespace Go.Proofs.YtdbkblcekmogkaaGreatDoor
open Go Go.RowKit
theorem WI {a:Addr} (h:a.spot=none) (n:Nat):a.add n=⟨a.block,a.off+n,none⟩:=by
 obtain ⟨b,o,s⟩:=a
 have hs:s=none:=h
 subst hs
 exact Addr.add_lit _ _ _
theorem Qb {w:World} {a:Addr} {v:Value} (h:w.cell? (a.add 0)=some v):a.spot=none∧a.block<w.heap.size:=by
 have e:a.add 0=a:=by simp [Addr.add]
 rw [e] at h
 unfold World.cell? at h
 cases hh:w.heap[a.block]? with
 | none=>rw [hh] at h;cases h
 | some ob=>
   rw [hh] at h
   refine ⟨?_,(Array.getElem?_eq_some_iff.1 hh).1⟩
   cases ob with
   | cells c t f=>
     cases hs:a.spot with
     | none=>rfl
     | some _=>simp [hs] at h
   | _=>cases h
theorem RX {W:World} {a:Addr} {len cap:Nat} {xs:List Abs.D} (hxl:xs.length=len) (hl:len≤cap) (hm:cap≤maxLen) (h0:0<cap→∃ v,W.cell? (a.add 0)=some v)
  (hx:∀ i x,xs[i]?=some x→Abs.D.cells x=[x]∧Abs.D.one x=true∧∃ u,W.cell? (a.add i)=some u∧u.oneCell'=true∧Abs.RdD (fun b=>b<W.heap.size) W u x) :
  Abs.RdD (fun b=>b<W.heap.size) W (.slice (some a) len cap) (.list xs):=by
 subst hxl
 rcases Nat.eq_zero_or_pos cap with hz | hz
 ·subst hz
  have:xs=[]:=List.length_eq_zero_iff.1 (by omega)
  subst this
  exact .lV _
 ·obtain ⟨v,hv⟩:=h0 hz
  obtain ⟨hs,hb⟩:=Qb hv
  have hu:∀ i x,xs[i]?=some x→∃ u,W.cell? ⟨a.block,a.off+i,none⟩=some u∧u.oneCell'=true∧Abs.RdD (fun b=>b<W.heap.size) W u x:=fun i x h=>by
   obtain ⟨_,_,u,h1,h2,h3⟩:=hx i x h
   rw [WI hs] at h1
   exact ⟨u,h1,h2,h3⟩
  refine .lst a cap 1 xs (fun i _=>(W.cell? ⟨a.block,a.off+i,none⟩).getD undef) hb hs hl hm (by decide) (fun i x h=>by rw [(hx i x h).1];rfl) (fun i x j c h hc=>?_) (fun i x j c h hc=>?_)
  ·obtain ⟨e1,e2,_⟩:=hx i x h
   rw [e1] at hc
   cases j with
   | zero=>
     simp at hc;subst hc
     obtain ⟨u,h1,h2,_⟩:=hu i x h
     rw [show a.off+(i*1+0)=a.off+i by omega,h1]
     exact ⟨rfl,h2,e2⟩
   | succ j=>simp at hc
  ·obtain ⟨e1,e2,_⟩:=hx i x h
   rw [e1] at hc
   cases j with
   | zero=>
     simp at hc;subst hc
     obtain ⟨u,h1,_,h3⟩:=hu i x h
     rw [h1];exact h3
   | succ j=>simp at hc
theorem ZP {W:World} {a:Addr} {len cap:Nat} {zs:List Int} (hl:len≤cap) (hm:cap≤maxLen) (hz:zs.length=cap) (hc:∀ i,i<cap→W.cell? (a.add i)=some (.int .i64 (zs.getD i 0))) :
  Abs.RdD (fun b=>b<W.heap.size) W (.slice (some a) len cap) (.list ((zs.take len).map enI)):=by
 refine RX (by simp;omega) hl hm (fun h=>⟨_,hc 0 h⟩) fun i x hx=>?_
 simp only [List.getElem?_map,Option.map_eq_some_iff] at hx
 obtain ⟨y,hy,rfl⟩:=hx
 have hi:i<len:=by have:=(List.getElem?_eq_some_iff.1 hy).1;simp at this;omega
 rw [List.getElem?_take_of_lt hi] at hy
 refine ⟨rfl,rfl,_,hc i (by omega),rfl,?_⟩
 have:zs.getD i 0=y:=by simp [List.getD,hy]
 rw [this];exact .int _ _
section
variable {H:Type} {enc:TypeId×Value→H} {W:World} {held:Bool}
set_option maxRecDepth 100000 in
theorem Xp {r:Reach} {b0:Nat} {v:Value} {d:DataW H} {p:List MemPlace} (hval:Value.okWide Tryz.prog W r b0 23 v) (h:DataW.Trod enc Tryz.prog W 0 (fun _=>true) held 23 v d p):∃ l:List Int,Abs.RdD (fun b=>b<W.heap.size) W v (.list (l.map enI)):=by
 obtain ⟨a0,len0,cap0,rfl⟩:=WideShapes.okWide_slice Tryz.underlying23 hval
 obtain ⟨fuel,h⟩:=h
 rcases ChangeShapes.open_ints Tryz.underlying23 Tryz.underlying3 (by kernel_rfl) h with ⟨hcs,_⟩ | ⟨a,len,cap,zs,hcs,_,hl,hm,hz,_,hc,_⟩
 ·obtain hcs:[Value.slice a0 len0 cap0]=_:=hcs
  cases hcs
  exact ⟨[],.lV _⟩
 ·obtain hcs:[Value.slice a0 len0 cap0]=_:=hcs
  cases hcs
  simp only [if_true] at hz
  exact ⟨zs.take len0,ZP hl hm hz fun i hi=>hc i (by omega)⟩
set_option maxRecDepth 100000 in
theorem Xo {r:Reach} {b0:Nat} {v:Value} {d:DataW H} {p:List MemPlace} (hval:Value.okWide Tryz.prog W r b0 22 v) (h:DataW.Trod enc Tryz.prog W 0 (fun _=>true) held 22 v d p):∃ s:List (List Int),Abs.RdD (fun b=>b<W.heap.size) W v (.list (s.map enL)):=by
 obtain ⟨a0,len0,cap0,rfl⟩:=WideShapes.okWide_slice Tryz.underlying22 hval
 obtain ⟨fuel,h⟩:=h
 rcases Deep.open_int_rows Tryz.underlying22 Tryz.underlying23 Tryz.underlying3 (by kernel_rfl) (by kernel_rfl) h with ⟨hcs,_⟩ | ⟨a,len,cap,A,L,C,Z,hcs,_,hl,hm,_,hr⟩
 ·obtain hcs:[Value.slice a0 len0 cap0]=_:=hcs
  cases hcs
  exact ⟨[],.lV _⟩
 ·obtain hcs:[Value.slice a0 len0 cap0]=_:=hcs
  cases hcs
  refine ⟨(List.range len0).map fun r=>(Z r).take (L r),RX (by simp) hl hm (fun h=>⟨_,(hr 0 h).1⟩) fun i x hx=>?_⟩
  simp only [List.map_map,List.getElem?_map,Option.map_eq_some_iff] at hx
  obtain ⟨r,hri,rfl⟩:=hx
  have hi:i<len0:=by have:=(List.getElem?_eq_some_iff.1 hri).1;simpa using this
  have hri':r=i:=by rw [List.getElem?_range hi] at hri;exact (Option.some.inj hri).symm
  subst hri'
  obtain ⟨c1,c2,c3,c4,_,c6,c7⟩:=hr r (by omega)
  refine ⟨rfl,rfl,_,c1,rfl,?_⟩
  cases hA:A r with
  | none=>
    have hc0:=c6 hA
    have hz:Z r=[]:=List.length_eq_zero_iff.1 (by omega)
    have hL:L r=0:=by omega
    show Abs.RdD _ W _ (.list (((Z r).take (L r)).map enI))
    rw [hz,hc0,hL];exact .lV _
  | some a'=>exact ZP c2 c3 c4 (c7 a' hA).2
end
end Go.Proofs.YtdbkblcekmogkaaGreatDoor
namespace Go.Proofs.YtdbkblcekmogkaaGreatDoor
open Go Go.RowKit
open Go.Sim in
noncomputable def kwV:List V:=match dA_root.pre with
 | [(_,.blk _ _ cs)]=>cs
 | _=>[]
theorem kw_same:kwV=Sim.cVs pK:=by kernel_rfl
theorem kw_one:pK.all (fun u=>u.oneCell')=true:=by kernel_rfl
theorem kw_len:pK.length=40:=by kernel_rfl
theorem kwV_len:kwV.length=40:=by kernel_rfl
open Go.Sim in
theorem LP {W w:World} (h:laidMetH Tryz.prog Rows.infosetCertainRow.laid W) (hf:Abs.Frame (fun _ _=>False) W w) :
  Calls Tryz.prog 6 #[] w fun e w'=>e = .returned (.bool true)∧Abs.Frame (fun _ _=>False) w w':=by
 obtain ⟨cur,t,fz,hw,hc⟩:=aeC h
 have hw':w.heap[1]?=some (.cells cur t fz):=by
  rw [hf.fE 1 (Array.getElem?_eq_some_iff.1 hw).1];exact hw
 refine (Gf (T:=T) (ng:=5) (k:=1) (F:=dA_root) (cs:=kwV) (us:=pK) (vs:=[]) (cur:=cur) YB (by kernel_rfl) (by decide) rfl rfl
  (fun g => .nil) hw' ?_ ?_ ?_ ?_).mono ?_
 ·have:cur.toList.length=40:=by rw [hc,kw_len]
  rw [kwV_len];simpa using Nat.le_of_eq this.symm
 ·rw [kw_len,kwV_len]
 ·intro g i c u hc hu
  rw [kw_same,yA,hu] at hc
  cases hc
  exact ⟨JH _ _ _,List.all_eq_true.1 kw_one _ (List.mem_of_getElem? hu)⟩
 ·intro i _
  rw [← hc];simp
 ·rintro e w' ⟨he,hb⟩
  exact ⟨he,hb.os,hb.tape,hb.output,hb.size,fun b hb' _=>hb.block b hb',fun b c T fz hbc=>⟨c,(hb.block b (Array.getElem?_eq_some_iff.1 hbc).1).trans hbc,rfl,fun _ _=>rfl⟩⟩
open Go.ChangeShapes Go.WideShapes Go.ChangeAt
theorem Ko {H:Type} {enc:TypeId×Value→H} {P:Program} {f:Func} {s:ChangeSpec} {apart fresh handsOn again:Bool} {W W':World} {args:Array Value} {v:Value} {ds gs:List (DataW H)} {before pa pv:List MemPlace}
  (hW:DataW.Whole enc P f.params.toList s.vars apart W args.toList ds gs before) (hb:Below W.heap.size W W')
  (hres:∀ (b:Nat) (sp:Nat→Bool) (hd:Bool),DataW.TrodAll enc P W' b sp hd f.resultTypes.toList (v.resultList f.resultTypes.size) (s.fn H (ds++gs)).results [])
  (hargs:∀ sp:Nat→Bool,(∀ p∈before,sp p.block=true)→DataW.TrodAll enc P W' 0 sp true f.params.toList args.toList (s.fn H (ds++gs)).args pa)
  (hvars:∀ sp:Nat→Bool,(∀ p∈before,sp p.block=true)→DataW.TrodVars enc P W' sp s.vars (s.fn H (ds++gs)).vars pv)
  (hps:before=pa++pv)
  (hok:∀ (j:Nat) (t:TypeId) (r:Value),f.resultTypes[j]?=some t→(v.resultList f.resultTypes.size)[j]?=some r→Value.okWide P W' .any 0 t r) :
  s.post enc P f apart fresh handsOn again W args v W':=by
 have hlt:∀ p∈before,p.block<W.heap.size:=fun p hp=>by simpa using hW.lt p hp
 have hd:∀ p∈before,(fun b=>decide (b<W.heap.size)) p.block=true:=fun p hp=>by simpa using hlt p hp
 have ht:∀ p∈before,(fun _:Nat=>true) p.block=true:=fun _ _=>rfl
 refine ⟨ds,gs,before,[],pa,pv,hW,hres _ _ _,hargs _ hd,hvars _ hd,hb.frame _,fun _=>⟨hok,(s.fn H (ds++gs)).results++(s.fn H (ds++gs)).args,(s.fn H (ds++gs)).vars,before,⟨pa,pv,trodAll_append (hargs _ ht) (hres _ _ _),hvars _ ht,hps,fun b off hp=>?_,?_⟩,fun p hp _=>hp⟩⟩
 ·obtain ⟨_,_,_,_,_,hz,_⟩:=hW
  exact (hb.frozen (hlt _ hp)).trans (hz b off hp)
 ·obtain ⟨_,_,_,_,_,_,hn⟩:=hW
  exact hn
theorem own:ownKnob Tryz.prog.godebug=none:=by kernel_rfl
theorem laidOut:laidOutB Tryz.prog=true:=by kernel_rfl
set_option maxRecDepth 100000 in
theorem contract (H:Type) (enc:TypeId×Value→H) (W:World) (args:Array Value) (ds gs:List (DataW H)) (before:List MemPlace) (base:Nat)
  (hval:∀ (j:Nat) t v,Tryz.f3.params[j]?=some t→args[j]?=some v→Value.okWide Tryz.prog W .any base t v)
  (hW:DataW.Whole enc Tryz.prog Tryz.f3.params.toList Rows.infosetCertainSpec.vars false W args.toList ds gs before) (hL:laidMetH Tryz.prog Rows.infosetCertainRow.laid W) :
  Calls Tryz.prog 3 args W fun e W'=>∃ v,e = .returned v∧Rows.infosetCertainSpec.post enc Tryz.prog Tryz.f3 false true false false W args v W':=by
 have hW':=hW
 obtain ⟨p,q,hA0,hV,rfl,hfz,hnd⟩:=hW
 have hA:DataW.TrodAll enc Tryz.prog W 0 (fun _=>true) true Tryz.f3.params.toList args.toList ds p:=hA0
 rw [Tryz.params3] at hA hval
 obtain ⟨v0,vs0,d0,ds0,p0,q0,hargs,rfl,rfl,h0,r0⟩:=trodAll_cons hA
 obtain ⟨v1,vs1,d1,ds1,p1,q1,hargs1,rfl,rfl,h1,r1⟩:=trodAll_cons r0
 obtain ⟨rfl,rfl,rfl⟩:=trodAll_nil r1
 subst hargs1
 obtain rfl:args=#[v0,v1]:=by cases args;simp_all
 obtain ⟨rfl,rfl⟩:=trodVars_none hV
 clear hA0 hA
 obtain ⟨set,hset⟩:=Xo (hval 0 22 v0 rfl rfl) h0
 obtain ⟨state,hstate⟩:=Xp (hval 1 23 v1 rfl rfl) h1
 refine (Tryz.law W _ (fun _ h=>h) v0 v1 set state hset hstate fun w hf=>LP hL hf).mono fun e W' ⟨he,hf⟩=>?_
 have hg:Below W.heap.size W W':=⟨hf.os,hf.tape,hf.output,hf.size,fun b hb=>hf.fE b hb⟩
 subst he
 have hlt:∀ x∈p0++(p1++[])++[],x.block<W.heap.size:=fun x hx=>by simpa using hW'.lt x hx
 refine ⟨_,rfl,Ko (pa:=p0++(p1++[])) (pv:=[]) hW' hg (fun _ _ _=>trodAll_cons_mk (shut_bool Tryz.underlying4 _) trodAll_mk0) (fun sp hs=>?_) (fun _ _=>rfl) rfl (ok_one (by kernel_rfl) rfl (okWide_bool_mk Tryz.underlying4 _))⟩
 have e0:=WideElems.Trod_stays (sp':=sp) (W':=W') laidOut (by kernel_rfl) (of_decide_eq_true (by kernel_rfl)) h0 (fun x hx=>hg.same (hlt x (by simp [hx]))) (fun x hx=>hs x (by simp [hx]))
 have e1:=WideElems.Trod_stays (sp':=sp) (W':=W') laidOut (by kernel_rfl) (of_decide_eq_true (by kernel_rfl)) h1 (fun x hx=>hg.same (hlt x (by simp [hx]))) (fun x hx=>hs x (by simp [hx]))
 exact trodAll_cons_mk e0 (trodAll_cons_mk e1 trodAll_mk0)
end Go.Proofs.YtdbkblcekmogkaaGreatDoor
namespace Go.Proofs.YtdbkblcekmogkaaGreatDoor
open Go Go.RowKit Go.ChangeShapes Go.WideShapes Go.ChangeAt
theorem band {a b:Bool} (h:a=true) (k:b=true):(a&&b)=true:=by rw [h,k];rfl
theorem j_inPlace:(Rows.infosetCertainRow.inPlace==Tryz.pinned.checked.prog.inPlace 3)=true:=by kernel_rfl
theorem j_unf:(Rows.infosetCertainRow.unfollowed==Tryz.pinned.checked.prog.unfollowed 3)=true:=by kernel_rfl
theorem j_rec:(Rows.infosetCertainRow.recurses==Tryz.pinned.checked.prog.recurses 3)=true:=by kernel_rfl
theorem j_named:(Rows.infosetCertainRow.named==Tryz.pinned.checked.prog.varsNamed 3)=true:=by kernel_rfl
theorem j_lift:(Rows.infosetCertainRow.lifted==Tryz.pinned.checked.prog.liftsFinal)=true:=by kernel_rfl
theorem TY:joinedFacts Tryz.pinned.checked.prog 3 Tryz.f3 (OpenSpec.ofChange Rows.infosetCertainSpec).bare Rows.infosetCertainRow=true:=by
 unfold joinedFacts
 exact band (band (band (band (band (band (band (band (band (band (band (band (band (band (band (band (band (band (band (band (band (band (band (by kernel_rfl) j_inPlace) j_unf) j_rec) j_named) (by kernel_rfl)) (by kernel_rfl)) (by kernel_rfl)) (by kernel_rfl)) (by kernel_rfl)) (by kernel_rfl)) (by kernel_rfl)) (by kernel_rfl)) (by kernel_rfl)) (by kernel_rfl)) (by kernel_rfl)) (by kernel_rfl)) (by kernel_rfl)) j_lift) (by kernel_rfl)) (by kernel_rfl)) (by kernel_rfl)) (by kernel_rfl)) (by kernel_rfl)
end Go.Proofs.YtdbkblcekmogkaaGreatDoor
namespace Go.Proofs.YtdbkblcekmogkaaGreatDoor
open Go Go.RowKit Go.ChangeShapes Go.WideShapes Go.ChangeAt
def intRow {H:Type} (d:DataW H):List Value:=match d with
 | .lit l=>[Qv l]
 | _=>[]
def intCells (d:DataW Unit):List Value:=match d with
 | .agg ds=>ds.flatMap intRow
 | _=>[]
def ER (cs:List Value):Obj→Obj
 | .cells _ t frozen => .cells cs.toArray t frozen
 | o=>o
noncomputable def laidWorld (os:Os):World:=
 {World.holding Tryz.prog os ⟨#[],#[],[]⟩ with heap:=((((World.holding Tryz.prog os ⟨#[],#[],[]⟩).heap.modify 1 (ER pK)).modify 2 (ER (intCells Rows.laid_internal_strconv_uint64pow10))).modify 3 (ER (intCells Rows.laid_math_bits_deBruijn32tab))).modify 4 (ER (intCells Rows.laid_math_bits_deBruijn64tab)) }
set_option maxRecDepth 100000 in
theorem laid_met (os:Os):laidMet Tryz.prog Rows.infosetCertainRow.laid ((laidWorld os).forCall (fun _ _=>0) ⟨#[],#[.slice none 0 0,.slice none 0 0],[]⟩).memory:=
 laidMet_of_run' 8 (by kernel_rfl) (by kernel_rfl)
theorem reads (os:Os) {H:Type} (enc:TypeId×Value→H):∃ places,DataW.whole enc Tryz.prog ((laidWorld os).forCall (fun _ _=>0) ⟨#[],#[.slice none 0 0,.slice none 0 0],[]⟩).memory Tryz.f3.params.toList Rows.infosetCertainSpec.vars false #[Value.slice none 0 0,Value.slice none 0 0].toList 8=some ([.nil,.nil],[],places):=
 ⟨[],by kernel_rfl⟩
set_option maxRecDepth 100000 in
theorem lifted (os:Os) (started:os.Started) (H:Type) (enc:TypeId×Value→H) (F:Stop.Interp) :
  ReturnsInHanded {} Tryz.checked os 3 .any ((OpenSpec.ofChange Rows.infosetCertainSpec).preRow enc Tryz.prog Tryz.f3 Rows.infosetCertainRow.domain false Rows.infosetCertainRow.laid) (((OpenSpec.ofChange Rows.infosetCertainSpec).at F).post enc Tryz.prog Tryz.f3 false true false false):=by
 obtain ⟨places,hx⟩:=reads os enc
 refine returnsInHanded_of_row (C:=Tryz.checked) (s:=OpenSpec.ofChange Rows.infosetCertainSpec) own started (by kernel_rfl) Tryz.func3
  (witness_row_at (enc:=enc) (C:=Tryz.checked) false (laidWorld os) #[.slice none 0 0,.slice none 0 0] rfl (by kernel_rfl) (by kernel_rfl) (by kernel_rfl)
   (OpenSpec.preRow_of_cond 8 hx (by kernel_rfl) (fun k hk=>by cases hk) (by kernel_rfl) (laid_met os))) ?_
 intro W base args ds gs before hval hW _ _ _ hL _ _
 exact contract H enc W args ds gs before base hval hW hL
set_option maxRecDepth 100000 in
theorem said:Rows.InfosetCertainSaid:=
 OpenClaim.holds_of_cond 3 Tryz.f3 rfl rfl rfl rfl rfl rfl rfl ⟨rfl,rfl,rfl,rfl,rfl⟩ rfl rfl rfl rfl rfl (by kernel_rfl) Tryz.func3 TY
  (of_decide_eq_true (by kernel_rfl)) (by unfold Func.isWrapper;first | (rw [if_pos (by decide +kernel)];kernel_rfl) | (rw [if_neg (by decide +kernel)];exact ⟨rfl,rfl⟩))
  (fun os started H enc _ F=>by rw [OpenClaim.pre_eq_preRow];exact lifted os started H enc F)
theorem plain (f:FuncId) (fn:Func) (hf:Tryz.pinned.checked.prog.funcNamed "gameplayer/gameplayerlaw40.InfosetCertain" = some f) (hfn:Tryz.pinned.checked.prog.funcs[f]?=some fn) :
  false=Tryz.pinned.checked.prog.looks []∧∀ (j:Nat) t,fn.params[j]?=some t→Tryz.pinned.checked.prog.wantsStandIn t=false:=by
 obtain rfl:f=3:=Option.some.inj ((show Tryz.prog.funcNamed "gameplayer/gameplayerlaw40.InfosetCertain" = some 3 by kernel_rfl).symm.trans hf) |>.symm
 obtain rfl:fn=Tryz.f3:=(Option.some.inj (Tryz.func3.symm.trans hfn)).symm
 refine ⟨by kernel_rfl,fun j t ht=>?_⟩
 rw [Tryz.params3] at ht
 have ht':t=22∨t=23:=by simpa using Array.mem_of_getElem? ht
 rcases ht' with rfl | rfl
 ·exact (show Tryz.prog.wantsStandIn 22=false by kernel_rfl)
 ·exact (show Tryz.prog.wantsStandIn 23=false by kernel_rfl)
set_option maxRecDepth 100000 in
theorem card:Rows.InfosetCertainCardSaid:=
 Claim7.holds_tied_plain_at .later [] _ _ _ _ said (fun _ h=>by cases h) (by kernel_rfl) (fun _ h=>by cases h) infosetCertain_row_tie rfl ⟨rfl,rfl⟩ (by kernel_rfl) rfl plain (by kernel_rfl)
#print axioms card
end Go.Proofs.YtdbkblcekmogkaaGreatDoor
