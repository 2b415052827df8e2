/- Step, View and Outcomes of no machine; the law around alive. -/
import Derived.Test.YteffedbdfaiajaaGreatDoorKeyCAnd
import Derived.Test.YteffedbdfaiajaaGreatDoorTextCAnd
import Derived.Laws.ResultCell
import Derived.Laws.Rows
import Derived.Test.YteffedbdfaiajaaGreatDoorORunBOne
import Derived.SizedLaws
set_option linter.unusedVariables false
set_option linter.unusedSimpArgs false
set_option linter.all false
namespace Go.Proofs
open Go.RowKit Go.Shelf
set_option maxRecDepth 100000 in
theorem Tryz.MP (w:World):Calls Tryz.prog 17 #[.pointer none] w fun e w'=>e = .returned (.bool true)∧w'=w:=by
 go_enter Tryz.func17,Tryz.ntmps17
 go_wp2
 go_ret
 exact ⟨rfl,rfl⟩
set_option maxRecDepth 100000 in
theorem Tryz.abb (a b c:Value) (w:World):Calls Tryz.prog 6 #[.pointer none,a,b,c] w fun e w'=>e = .returned (.tuple #[.agg #[.string ⟨#[]⟩,.slice none 0 0,.slice none 0 0],.int .i64 13])∧Below w.heap.size w w':=by
 have cD:=Tryz.MP
 go_enter Tryz.func6,Tryz.ntmps6
 go_wp2_with (go_at_call 17;refine (cD _).mono ?_;rintro e w1 ⟨rfl,rfl⟩)
 obtain ⟨W,hW⟩:∃ W,w.alloc (Obj.cells #[.string ⟨#[]⟩,.slice none 0 0,.slice none 0 0] 31)=W:=⟨_,rfl⟩
 have hh:W.heap[w.heap.size]?=some (.cells #[.string ⟨#[]⟩,.slice none 0 0,.slice none 0 0] 31 (0,0)):=by rw [← hW];exact heap_alloc_new w _
 have hB:Below w.heap.size w W:=by rw [← hW];exact (Below.refl _ w).alloc (Nat.le_refl _) _
 rw [hW]
 have hL:=run_loadVar_row (P:=Tryz.prog) W w.heap.size 31 31 _ _ _ hh Tryz.underlying31 rfl (by kernel_rfl)
 refine bodyPost_ret (v := .tuple #[.agg #[.string ⟨#[]⟩,.slice none 0 0,.slice none 0 0],.int .i64 13]) ((results_cell_tmp rfl _ _ _).trans ?_) rfl ?_
 ·simp [asAddr,Result.andThen,hL]
 exact ⟨rfl,hB⟩
set_option maxRecDepth 100000 in
theorem Tryz.aa7 (a:Value) (r:Int) (w:World):Calls Tryz.prog 7 #[.pointer none,a,.int .i64 r] w fun e w'=>e = .returned (.tuple #[.slice none 0 0,.int .i64 13])∧Below w.heap.size w w':=by
 have cD:=Tryz.MP
 go_enter Tryz.func7,Tryz.ntmps7
 go_wp2_with (go_at_call 17;refine (cD _).mono ?_;rintro e w1 ⟨rfl,rfl⟩)
 go_ret2
 exact ⟨rfl,((Below.refl _ w).alloc (Nat.le_refl _) _).alloc (by simp) _⟩
set_option maxRecDepth 100000 in
theorem Tryz.aeg (a b c:Value) (w:World):Calls Tryz.prog 8 #[.pointer none,a,b,c] w fun e w'=>e = .returned (.tuple #[.slice none 0 0,.int .i64 13])∧Below w.heap.size w w':=by
 have cD:=Tryz.MP
 go_enter Tryz.func8,Tryz.ntmps8
 go_wp2_with (go_at_call 17;refine (cD _).mono ?_;rintro e w1 ⟨rfl,rfl⟩)
 go_ret2
 exact ⟨rfl,(Below.refl _ _)⟩
set_option maxRecDepth 100000 in
theorem Tryz.aeJ (a b:Option Addr) (n m k l:Nat) (r s:Int) (w:World):Calls Tryz.prog 4 #[.agg #[.slice a n k,.slice b m l,.int .i64 r,.int .i64 s]] w fun e w'=>(∃ x,e = .returned (.bool x))∧Below w.heap.size w w':=by
 go_enter Tryz.func4,Tryz.ntmps4
 go_wp2
 go_ret
 exact ⟨⟨_,rfl⟩,(Below.refl _ w).alloc (Nat.le_refl _) _⟩
set_option maxHeartbeats 1000000 in
set_option maxRecDepth 100000 in
theorem Tryz.aeE (a b:Option Addr) (n m k l:Nat) (r s:Int) (w:World) (hA:∀ W,Below w.heap.size w W→Calls Tryz.prog 5 #[] W fun e w'=>e = .returned (.bool true)∧Below W.heap.size W w') :
  Calls Tryz.prog 3 #[.agg #[.slice a n k,.slice b m l,.int .i64 r,.int .i64 s]] w fun e w'=>e = .returned (.bool true)∧Below w.heap.size w w':=by
 have cF:=Tryz.aeJ a b n m k l r s
 have cS:=Tryz.abb
 have cV:=Tryz.aa7
 have cO:=Tryz.aeg
 go_enter Tryz.func3,Tryz.ntmps3
 go_wp2_with fail
 obtain ⟨W0,hW0⟩:∃ W0,w.alloc (.cells #[.slice a n k,.slice b m l,.int .i64 r,.int .i64 s] 24)=W0:=⟨_,rfl⟩
 have hB0:Below w.heap.size w W0:=by rw [← hW0];exact (Below.refl _ w).alloc (Nat.le_refl _) _
 have hs0:W0.heap.size=w.heap.size+1:=by rw [← hW0];simp
 have hbl:W0.heap[w.heap.size]?=some (.cells #[.slice a n k,.slice b m l,.int .i64 r,.int .i64 s] 24 (0,0)):=by rw [← hW0];exact heap_alloc_new w _
 rw [hW0]
 have k0:W0.cell? ⟨w.heap.size,0,none⟩=some (.slice a n k):=by simp [World.cell?,hbl]
 have k1:W0.cell? ⟨w.heap.size,1,none⟩=some (.slice b m l):=by simp [World.cell?,hbl]
 have k2:W0.cell? ⟨w.heap.size,2,none⟩=some (.int .i64 r):=by simp [World.cell?,hbl]
 have k3:W0.cell? ⟨w.heap.size,3,none⟩=some (.int .i64 s):=by simp [World.cell?,hbl]
 clear hW0
 go_wp2_with (first
  | (go_at_call 4;refine (cF _).mono ?_;rintro e w1 ⟨⟨x,rfl⟩,h1⟩;have z1:=h1.size;have b1:Below w.heap.size w w1:=hB0.trans (h1.mono (by omega));have l0:=dK h1 (show w.heap.size<W0.heap.size by omega) k0;have l1:=dK h1 (show w.heap.size<W0.heap.size by omega) k1;have l2:=dK h1 (show w.heap.size<W0.heap.size by omega) k2;have l3:=dK h1 (show w.heap.size<W0.heap.size by omega) k3)
  | (go_at_call 6;refine (cS _ _ _ _).mono ?_;rintro e w2 ⟨rfl,h2⟩;have z2:=h2.size;have b2:Below w.heap.size w w2:=b1.trans (h2.mono (by omega));have m0:=dK h2 (show w.heap.size<w1.heap.size by omega) l0;have m1:=dK h2 (show w.heap.size<w1.heap.size by omega) l1;have m2:=dK h2 (show w.heap.size<w1.heap.size by omega) l2;have m3:=dK h2 (show w.heap.size<w1.heap.size by omega) l3;have hb2:=(Below.refl w2.heap.size w2).alloc (Nat.le_refl _) (Obj.cells #[.string ⟨#[]⟩,.slice none 0 0,.slice none 0 0] 31);have a0:=dK hb2 (show w.heap.size<w2.heap.size by omega) m0;have a1:=dK hb2 (show w.heap.size<w2.heap.size by omega) m1;have a2:=dK hb2 (show w.heap.size<w2.heap.size by omega) m2;have a3:=dK hb2 (show w.heap.size<w2.heap.size by omega) m3;have hb3:=hb2.alloc (show w2.heap.size≤_ by simp) (Obj.cells #[.slice b m l] 22);have d0:=dK hb3 (show w.heap.size<w2.heap.size by omega) m0;have d2:=dK hb3 (show w.heap.size<w2.heap.size by omega) m2;have d3:=dK hb3 (show w.heap.size<w2.heap.size by omega) m3)
  | (go_at_call 7;refine (cV _ _ _).mono ?_;rintro e w3 ⟨rfl,h3⟩;have z3:=h3.size;rw [World.size_alloc,World.size_alloc] at z3;have b3:Below w.heap.size w w3:=(b2.trans (hb3.mono (by omega))).trans (h3.mono (by simp;omega));have e0:=dK h3 (show w.heap.size<_ by simp;omega) d0;have e2:=dK h3 (show w.heap.size<_ by simp;omega) d2;have e3:=dK h3 (show w.heap.size<_ by simp;omega) d3)
  | (go_at_call 8;refine (cO _ _ _ _).mono ?_;rintro e w4 ⟨rfl,h4⟩;have z4:=h4.size;have b4:Below w.heap.size w w4:=b3.trans (h4.mono (by omega)))
  | (go_at_call 5;refine (hA _ b4).mono ?_;rintro e w5 ⟨rfl,h5⟩)
  | (go_at_call 5;refine (hA _ b1).mono ?_;rintro e w2 ⟨rfl,h2⟩))
 ·(try simp only [Exit.inBlock,Exit.then])
  refine bodyPost_ret (results_tmp (t:=2) (by rfl) _ _ _) (by rfl) ?_
  exact ⟨rfl,b1.trans (h2.mono (by omega))⟩
 ·(try simp only [Exit.inBlock,Exit.then])
  refine bodyPost_ret (results_tmp (t:=2) (by rfl) _ _ _) (by rfl) ?_
  exact ⟨rfl,b4.trans (h5.mono (by omega))⟩
end Go.Proofs
namespace Go.Proofs.YteffedbdfaiajaaGreatDoor
open Go Go.RowKit Go.ChangeShapes Go.WideShapes Go.ChangeAt
theorem Dc {H:Type} {enc:TypeId×Value→H} {P:Program} {f:Func} {s:ChangeSpec} {apart fresh handsOn again:Bool} {W W':World} {args:Array Value} {v:Value} {ds gs:List (DataW H)} {before pa pv:List MemPlace}
  (hW:DataW.Whole enc P f.params.toList s.vars apart W args.toList ds gs before) (hb:Below W.heap.size W W')
  (hres:∀ (b:Nat) (sp:Nat→Bool) (hd:Bool),DataW.TrodAll enc P W' b sp hd f.resultTypes.toList (v.resultList f.resultTypes.size) (s.fn H (ds++gs)).results [])
  (hargs:∀ sp:Nat→Bool,(∀ p∈before,sp p.block=true)→DataW.TrodAll enc P W' 0 sp true f.params.toList args.toList (s.fn H (ds++gs)).args pa)
  (hvars:∀ sp:Nat→Bool,(∀ p∈before,sp p.block=true)→DataW.TrodVars enc P W' sp s.vars (s.fn H (ds++gs)).vars pv)
  (hps:before=pa++pv)
  (hok:∀ (j:Nat) (t:TypeId) (r:Value),f.resultTypes[j]?=some t→(v.resultList f.resultTypes.size)[j]?=some r→Value.okWide P W' .any 0 t r) :
  s.post enc P f apart fresh handsOn again W args v W':=by
 have hlt:∀ p∈before,p.block<W.heap.size:=fun p hp=>by simpa using hW.lt p hp
 have hd:∀ p∈before,(fun b=>decide (b<W.heap.size)) p.block=true:=fun p hp=>by simpa using hlt p hp
 have ht:∀ p∈before,(fun _:Nat=>true) p.block=true:=fun _ _=>rfl
 refine ⟨ds,gs,before,[],pa,pv,hW,hres _ _ _,hargs _ hd,hvars _ hd,hb.frame _,fun _=>⟨hok,(s.fn H (ds++gs)).results++(s.fn H (ds++gs)).args,(s.fn H (ds++gs)).vars,before,⟨pa,pv,trodAll_append (hargs _ ht) (hres _ _ _),hvars _ ht,hps,fun b off hp=>?_,?_⟩,fun p hp _=>hp⟩⟩
 ·obtain ⟨_,_,_,_,_,hz,_⟩:=hW
  exact (hb.frozen (hlt _ hp)).trans (hz b off hp)
 ·obtain ⟨_,_,_,_,_,_,hn⟩:=hW
  exact hn
theorem own:ownKnob Tryz.prog.godebug=none:=by kernel_rfl
theorem laidOut:laidOutB Tryz.prog=true:=by kernel_rfl
section
variable {H:Type} {enc:TypeId×Value→H} {W:World}
theorem qw {t e:TypeId} {sp:Nat→Bool} {base fuel:Nat} {held:Bool} {cs:List Value} {x:DataW H×List MemPlace} (ht:Tryz.prog.underlying t=some (.slice e)) (h:DataW.trod enc Tryz.prog W base sp held fuel t cs=some x):∃ a n c,cs=[.slice a n c]:=by
 rcases Deep.open_slice ht h with ⟨h,_⟩ | ⟨a,n,c,_,_,_,_,h,_⟩
 ·exact ⟨_,_,_,h⟩
 ·exact ⟨_,_,_,h⟩
set_option maxRecDepth 100000 in
theorem BX {r:Reach} {b0 base:Nat} {sp:Nat→Bool} {held:Bool} {v:Value} {d:DataW H} {p:List MemPlace} (hval:Value.okWide Tryz.prog W r b0 24 v) (h:DataW.Trod enc Tryz.prog W base sp held 24 v d p) :
  ∃ a n k b m l r s,v = .agg #[.slice a n k,.slice b m l,.int .i64 r,.int .i64 s]:=by
 obtain ⟨cs,rfl,hz⟩:=okWide_struct Tryz.underlying24 hval
 have hz:cs.size=4:=hz.trans (by kernel_rfl)
 obtain ⟨fuel,h⟩:=h
 obtain ⟨xs,n,_,_,hl,hlen,hf⟩:=DataW.trod_struct Tryz.underlying24 h
 have h':DataW.trod enc Tryz.prog W base sp held fuel 24 cs.toList=some (d,p):=h
 obtain ⟨cs⟩:=cs
 match xs,hlen,cs,hz with
 | [y0,y1,y2,y3],_,[c0,c1,c2,c3],_=>
   have f0:=hf 0 _ rfl
   have f1:=hf 1 _ rfl
   have f2:=hf 2 _ rfl
   have f3:=hf 3 _ rfl
   have k9:Tryz.prog.cellsOf 22=1:=by kernel_rfl
   have k3:Tryz.prog.cellsOf 3=1:=by kernel_rfl
   have e:(Value.agg #[c0,c1,c2,c3]).cells.toList=[c0,c1,c2,c3]:=rfl
   rw [e] at f0 f1 f2 f3
   simp only [k9,k3,List.drop,List.take,List.getElem?_cons_zero,List.getElem?_cons_succ] at f0 f1 f2 f3
   obtain ⟨a,n0,k,e0⟩:=qw Tryz.underlying22 f0
   obtain ⟨b,m,l,e1⟩:=qw Tryz.underlying22 f1
   obtain ⟨r,e2,_,_⟩:=DataW.trod_int Tryz.underlying3 f2
   obtain ⟨s,e3,_,_⟩:=DataW.trod_int Tryz.underlying3 f3
   cases e0;cases e1;cases e2;cases e3
   exact ⟨_,_,_,_,_,_,_,_,rfl⟩
end
set_option maxRecDepth 100000 in
theorem Xz {W:World} (h:W.ShapedOpen Tryz.prog):∃ m:Int,W.cell? ⟨0,0,none⟩=some (.int .i64 m):=
 cell_of_shapedOpen_int (P:=Tryz.prog) (g:=0) (t:=3) (zero:=#[.int .i64 0]) h (of_decide_eq_true (by kernel_rfl)) (by kernel_rfl) rfl (by kernel_rfl) (by kernel_rfl) Tryz.underlying3
set_option maxRecDepth 100000 in
theorem contract (H:Type) (enc:TypeId×Value→H) (W:World) (args:Array Value) (ds gs:List (DataW H)) (before:List MemPlace) (base:Nat)
  (hval:∀ (j:Nat) t v,Tryz.f3.params[j]?=some t→args[j]?=some v→Value.okWide Tryz.prog W .any base t v)
  (hW:DataW.Whole enc Tryz.prog Tryz.f3.params.toList Rows.observeNoneSpec.vars false W args.toList ds gs before) (hL:laidMetH Tryz.prog Rows.observeNoneRow.laid W) (hS:W.ShapedOpen Tryz.prog) :
  Calls Tryz.prog 3 args W fun e W'=>∃ v,e = .returned v∧Rows.observeNoneSpec.post enc Tryz.prog Tryz.f3 false true false false W args v W':=by
 have hW':=hW
 obtain ⟨p,q,hA0,hV,rfl,hfz,hnd⟩:=hW
 have hA:DataW.TrodAll enc Tryz.prog W 0 (fun _=>true) true Tryz.f3.params.toList args.toList ds p:=hA0
 rw [Tryz.params3] at hA hval
 obtain ⟨v0,vs0,d0,ds0,p0,q0,hargs,rfl,rfl,h0,r0⟩:=trodAll_cons hA
 obtain ⟨rfl,rfl,rfl⟩:=trodAll_nil r0
 obtain rfl:args=#[v0]:=by cases args;simp_all
 obtain ⟨rfl,rfl⟩:=trodVars_none hV
 clear hA0 hA
 obtain ⟨a,n,k,b,m,l,r,s,rfl⟩:=BX (hval 0 24 v0 rfl rfl) h0
 have hm:=Xz hS
 have hg:=Jb hL
 refine (Tryz.aeE a b n m k l r s W fun W1 hb=>?_).mono fun e W' ⟨he,hg⟩=>?_
 ·refine DY ?_ fun k hk=>?_
  ·obtain ⟨m,hm⟩:=hm
   have hz:0<W.heap.size:=by
    unfold World.cell? at hm
    cases hh:W.heap[0]? with
    | none=>rw [hh] at hm;cases hm
    | some _=>exact (Array.getElem?_eq_some_iff.1 hh).1
   exact ⟨m,dK hb hz hm⟩
  ·obtain ⟨cur,t,fz,h1,h2⟩:=hg k hk
   exact ⟨cur,t,fz,(hb.block k (Array.getElem?_eq_some_iff.1 h1).1).trans h1,h2⟩
 subst he
 have hlt:∀ x∈p0++[]++[],x.block<W.heap.size:=fun x hx=>by simpa using hW'.lt x hx
 refine ⟨_,rfl,Dc (pa:=p0++[]) (pv:=[]) hW' hg (fun _ _ _=>trodAll_cons_mk (shut_bool Tryz.underlying4 _) trodAll_mk0) (fun sp hs=>?_) (fun _ _=>rfl) rfl (ok_one (by kernel_rfl) rfl (okWide_bool_mk Tryz.underlying4 _))⟩
 have e0:=WideElems.Trod_stays (sp':=sp) (W':=W') laidOut (by kernel_rfl) (of_decide_eq_true (by kernel_rfl)) h0 (fun x hx=>hg.same (hlt x (by simp [hx]))) (fun x hx=>hs x (by simp [hx]))
 exact trodAll_cons_mk e0 trodAll_mk0
end Go.Proofs.YteffedbdfaiajaaGreatDoor
