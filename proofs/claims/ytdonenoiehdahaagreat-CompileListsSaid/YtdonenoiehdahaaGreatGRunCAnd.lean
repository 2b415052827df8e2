/- Ground descriptions as data. -/
import Derived.Test.YtdonenoiehdahaaGreatGrYAnd
import Derived.Deep.Matrix
import Derived.Deep.Strs
import Derived.Test.YtdonenoiehdahaaGreatLtBAnd
import Derived.Test.YtdonenoiehdahaaGreatRows
import Derived.WalkKit
import Derived.ProofKit
import Derived.OpenShut
import Derived.Deep.DeepHandedRow
import Derived.SizedLaws
set_option linter.all false
namespace Go.Proofs.YtdonenoiehdahaaGreat
open Go Go.RowKit Go.ChangeShapes Go.WideShapes
theorem U1 {a:Addr} (h:a.spot=none) (n:Nat):a.add n=⟨a.block,a.off+n,none⟩:=by
 obtain ⟨b,o,s⟩:=a
 have hs:s=none:=h
 subst hs
 exact Addr.add_lit _ _ _
theorem Qk {w:World} {a:Addr} {v:Value} (h:w.cell? (a.add 0)=some v):a.spot=none∧a.block<w.heap.size:=by
 have e:a.add 0=a:=by simp [Addr.add]
 rw [e] at h
 unfold World.cell? at h
 cases hh:w.heap[a.block]? with
 | none=>rw [hh] at h;cases h
 | some ob=>
   rw [hh] at h
   refine ⟨?_,(Array.getElem?_eq_some_iff.1 hh).1⟩
   cases ob with
   | cells c t f=>
     cases hs:a.spot with
     | none=>rfl
     | some _=>simp [hs] at h
   | _=>cases h
theorem Hz {W:World} {a:Addr} {len cap sz:Nat} {xs:List Abs.D} (hxl:xs.length=len) (hl:len≤cap) (hm:cap≤maxLen) (hsz:0<sz) (h0:0<cap→∃ v,W.cell? (a.add 0)=some v)
  (hx:∀ (i:Nat) x,xs[i]?=some x→(Abs.D.cells x).length=sz∧∀ (j:Nat) c,(Abs.D.cells x)[j]?=some c→∃ u,W.cell? (a.add (i*sz+j))=some u∧u.oneCell'=true∧Abs.D.one c=true∧Abs.RdD (fun b=>b<W.heap.size) W u c) :
  Abs.RdD (fun b=>b<W.heap.size) W (.slice (some a) len cap) (.list xs):=by
 subst hxl
 rcases Nat.eq_zero_or_pos cap with hz | hz
 ·subst hz
  have:xs=[]:=List.length_eq_zero_iff.1 (by omega)
  subst this
  exact .kU _
 ·obtain ⟨v,hv⟩:=h0 hz
  obtain ⟨hs,hb⟩:=Qk hv
  have hu:∀ (i:Nat) x (j:Nat) c,xs[i]?=some x→(Abs.D.cells x)[j]?=some c→∃ u,W.cell? ⟨a.block,a.off+(i*sz+j),none⟩=some u∧u.oneCell'=true∧Abs.D.one c=true∧Abs.RdD (fun b=>b<W.heap.size) W u c:=fun i x j c h hc=>by
   obtain ⟨_,h2⟩:=hx i x h
   obtain ⟨u,h3,h4⟩:=h2 j c hc
   rw [U1 hs] at h3
   exact ⟨u,h3,h4⟩
  refine .lst a cap sz xs (fun i j=>(W.cell? ⟨a.block,a.off+(i*sz+j),none⟩).getD undef) hb hs hl hm hsz (fun i x h=>(hx i x h).1) (fun i x j c h hc=>?_) (fun i x j c h hc=>?_)
  ·obtain ⟨u,h1,h2,h3,_⟩:=hu i x j c h hc
   rw [h1];exact ⟨rfl,h2,h3⟩
  ·obtain ⟨u,h1,_,_,h4⟩:=hu i x j c h hc
   rw [h1];exact h4
section
open Go.Abs Go.Own
variable {H:Type} {enc:TypeId×Value→H} {W:World} {held:Bool}
theorem Xf {ok:Nat→Prop} {W:World} {s:ByteArray} (h:s.size≤maxLen):RdD ok W (.string s) (.str s.data.toList):=by
 have:(Value.string s) = .string ⟨s.data.toList.toArray⟩:=by simp
 rw [this]
 exact .str _ (by simpa using h)
def XZ (W:World) (t:Tm) (v0 v1:Value):Prop:=v0.oneCell'=true∧v1.oneCell'=true∧RdD (fun b=>b<W.heap.size) W v0 (.str t.name)∧RdD (fun b=>b<W.heap.size) W v1 (.list (t.args.map enT))
set_option maxRecDepth 100000 in
theorem Na {n:Nat} {cs:List Value} {x:DataW H×List MemPlace} (h:DataW.trod enc Tryz.prog W 0 (fun _=>true) held n 22 cs=some x)
  (IH:∀ (n:Nat) (cs:List Value) (y:DataW H×List MemPlace),SizeOf.sizeOf y.1<SizeOf.sizeOf x.1→DataW.trod enc Tryz.prog W 0 (fun _=>true) held n 52 cs=some y→∃ (t:Tm) (v0 v1:Value),cs=[v0,v1]∧XZ W t v0 v1∧okT t) :
  ∃ (v:Value) (l:List Tm),cs=[v]∧v.oneCell'=true∧RdD (fun b=>b<W.heap.size) W v (.list (l.map enT))∧(∀ t∈l,okT t)∧l.length≤maxLen∧(l=[]∨∃ ds sp,x.1 = .slice ds sp∧l.length=ds.length):=by
 have k2:Tryz.prog.cellsOf 52=2:=by kernel_rfl
 rcases Deep.open_slice Tryz.underlying22 h with ⟨rfl,rfl⟩ | ⟨a,len,cap,m,n',DD,Pl,rfl,_,hl,hm,hmm,hx,hel⟩
 ·exact ⟨_,[],rfl,rfl,.kU _,(fun _ h=>by cases h),by simp,.inl rfl⟩
 simp only [if_true] at hmm
 subst hmm
 rw [k2] at hel
 haveI:Inhabited Tm:=⟨.mk [] []⟩
 obtain ⟨y,hy⟩:=Deep.choose_lt (α:=Tm) (n:=len) (p:=fun i t=>(∃ v0 v1,W.cell? (a.add (i*2+0))=some v0∧W.cell? (a.add (i*2+1))=some v1∧XZ W t v0 v1)∧okT t) (fun i hi=>by
  obtain ⟨cs',h1,h2⟩:=hel i (by omega)
  obtain ⟨t,v0,v1,rfl,ht,hok⟩:=IH _ _ _ (by
   rw [hx]
   have hmem:DD i∈(List.range len).map DD:=List.mem_map.2 ⟨i,List.mem_range.2 hi,rfl⟩
   have:=List.sizeOf_lt_of_mem hmem
   simp only [DataW.slice.sizeOf_spec]
   omega) h2
  obtain ⟨_,_,h3⟩:=World.cells?_some h1
  have e0:=h3 0 (by omega)
  have e1:=h3 1 (by omega)
  rw [Deep.add_add] at e0 e1
  exact ⟨t,⟨v0,v1,by simpa using e0,by simpa using e1,ht⟩,hok⟩)
 refine ⟨_,(List.range len).map y,rfl,rfl,?_,fun t ht=>?_,by simp;omega,.inr ⟨_,_,congrArg Prod.fst hx,by simp⟩⟩
 ·refine Hz (sz:=2) (by simp) hl hm (by decide) (fun hc=>?_) fun i x hi=>?_
  ·obtain ⟨cs',h1,_⟩:=hel 0 hc
   obtain ⟨_,hlen,h3⟩:=World.cells?_some h1
   have:=h3 0 (by omega)
   rw [Deep.add_add,Nat.zero_mul] at this
   rw [this]
   exact ⟨_,List.getElem?_eq_getElem (by omega)⟩
  ·simp only [List.map_map,List.getElem?_map,Option.map_eq_some_iff] at hi
   obtain ⟨r,hri,rfl⟩:=hi
   have hi:i<len:=by have:=(List.getElem?_eq_some_iff.1 hri).1;simpa using this
   obtain rfl:r=i:=by rw [List.getElem?_range hi] at hri;exact (Option.some.inj hri).symm
   obtain ⟨⟨v0,v1,c0,c1,o0,o1,r0,r1⟩,_⟩:=hy r hi
   rw [show (enT ∘ y) r=tD (y r).name (y r).args from bH _]
   refine ⟨rfl,fun j c hc=>?_⟩
   have hc:[D.str (y r).name,D.list ((y r).args.map enT)][j]?=some c:=hc
   match j,hc with
   | 0,hc=>obtain rfl:=Option.some.inj hc;exact ⟨v0,c0,o0,rfl,r0⟩
   | 1,hc=>obtain rfl:=Option.some.inj hc;exact ⟨v1,c1,o1,rfl,r1⟩
   | j+2,hc=>simp at hc
 ·obtain ⟨r,hr,rfl⟩:=List.mem_map.1 ht
  exact (hy r (List.mem_range.1 hr)).2
set_option maxRecDepth 100000 in
theorem Sv:∀ (N n:Nat) (cs:List Value) (x:DataW H×List MemPlace),SizeOf.sizeOf x.1<N→DataW.trod enc Tryz.prog W 0 (fun _=>true) held n 52 cs=some x→∃ (t:Tm) (v0 v1:Value),cs=[v0,v1]∧XZ W t v0 v1∧okT t
 | 0,_,_,_,hN,_=>by omega
 | N+1,n,cs,x,hN,h=>by
   have k1:Tryz.prog.cellsOf 9=1:=by kernel_rfl
   have k1':Tryz.prog.cellsOf 22=1:=by kernel_rfl
   have k2:Tryz.prog.cellsOf 52=2:=by kernel_rfl
   obtain ⟨y0,y1,m,hx,hl,h0,h1⟩:=trod_struct2 Tryz.underlying52 h
   rw [k2] at hl
   match cs,hl with
   | [c0,c1],_=>
     simp only [k1,k1',List.drop,List.take] at h0 h1
     obtain ⟨s,e0,_,hs⟩:=DataW.trod_string Tryz.underlying9 h0
     cases e0
     have hsz:SizeOf.sizeOf y1.1<N:=by
      rw [hx] at hN
      simp at hN
      omega
     obtain ⟨v,l,e1,o1,r1,hok,hlen,_⟩:=Na h1 (fun n' cs' y hy hh=>Sv N n' cs' y (by omega) hh)
     cases e1
     exact ⟨.mk s.data.toList l,_,_,rfl,⟨rfl,o1,Xf hs,r1⟩,aU.2 ⟨by simp only [Tm.args];simp only [maxLen] at hlen;omega,hok⟩⟩
theorem weightsAll_mem {P:Program} {e:TypeId} {d:DataW H} {w:Nat}:∀ {ds:List (DataW H)},d∈ds→w∈d.weights P e→w∈DataW.weightsAll P e ds
 | d'::ds,hm,hw=>by
   rw [DataW.weightsAll]
   rcases List.mem_cons.1 hm with rfl | hm
   ·exact List.mem_append_left _ hw
   ·exact List.mem_append_right _ (weightsAll_mem hm hw)
def Light (t:TypeId) (d:DataW H):Prop:=∀ w∈d.weights Tryz.prog t,w≤reachBytes
theorem Light.slice {t e:TypeId} {ds sp:List (DataW H)} (hu:Tryz.prog.underlying t=some (.slice e)) (h:Light t (.slice ds sp)):(ds.length+sp.length)*Tryz.prog.bytesOf e≤reachBytes∧∀ d∈ds,Light e d:=by
 unfold Light at h
 rw [DataW.weights,hu] at h
 exact ⟨h _ (List.mem_cons_self ..),fun d hd w hw=>h w (List.mem_cons_of_mem _ (List.mem_append_left _ (weightsAll_mem hd hw)))⟩
theorem Light.YB {t:TypeId} {f0 f1:Field} {d0 d1:DataW H} (hu:Tryz.prog.underlying t=some (.struct #[f0,f1])) (h:Light t (.agg [d0,d1])):Light f0.type d0∧Light f1.type d1:=by
 unfold Light at h
 rw [DataW.weights,hu] at h
 simp only [List.map_cons,List.map_nil,DataW.weightsEach] at h
 exact ⟨fun w hw=>h w (by simp [hw]),fun w hw=>h w (by simp [hw])⟩
theorem Light.YA {t:TypeId} {f0 f1 f2:Field} {d0 d1 d2:DataW H} (hu:Tryz.prog.underlying t=some (.struct #[f0,f1,f2])) (h:Light t (.agg [d0,d1,d2])):Light f0.type d0∧Light f1.type d1∧Light f2.type d2:=by
 unfold Light at h
 rw [DataW.weights,hu] at h
 simp only [List.map_cons,List.map_nil,DataW.weightsEach] at h
 exact ⟨fun w hw=>h w (by simp [hw]),fun w hw=>h w (by simp [hw]),fun w hw=>h w (by simp [hw])⟩
set_option maxRecDepth 100000 in
theorem OU {n:Nat} {cs:List Value} {x:DataW H×List MemPlace} (h:DataW.trod enc Tryz.prog W 0 (fun _=>true) held n 38 cs=some x) (hw:Light 38 x.1) :
  ∃ (v:Value) (l:List Int),cs=[v]∧v.oneCell'=true∧RdD (fun b=>b<W.heap.size) W v (.list (l.map enI))∧l.length≤reachBytes:=by
 have k1:Tryz.prog.cellsOf 3=1:=by kernel_rfl
 have b1:Tryz.prog.bytesOf 3=8:=by kernel_rfl
 rcases Deep.open_slice Tryz.underlying38 h with ⟨rfl,rfl⟩ | ⟨a,len,cap,m,n',DD,Pl,rfl,_,hl,hm,hmm,hx,hel⟩
 ·exact ⟨_,[],rfl,rfl,.kU _,by simp⟩
 simp only [if_true] at hmm
 subst hmm
 rw [k1] at hel
 obtain ⟨y,hy⟩:=Deep.choose_lt (α:=Int) (n:=len) (p:=fun i z=>W.cell? (a.add (i*1))=some (.int .i64 z)) (fun i hi=>by
  obtain ⟨cs',h1,h2⟩:=hel i (by omega)
  obtain ⟨z,rfl,_,_⟩:=DataW.trod_int Tryz.underlying3 h2
  obtain ⟨_,_,h3⟩:=World.cells?_some h1
  have e0:=h3 0 (by omega)
  rw [Deep.add_add] at e0
  exact ⟨z,by simpa using e0⟩)
 rw [hx] at hw
 have hwl:=(Light.slice Tryz.underlying38 hw).1
 rw [b1] at hwl
 simp only [List.length_map,List.length_range] at hwl
 refine ⟨_,(List.range len).map y,rfl,rfl,?_,by simp;omega⟩
 refine Hz (sz:=1) (by simp) hl hm (by decide) (fun hc=>?_) fun i x hi=>?_
 ·obtain ⟨cs',h1,_⟩:=hel 0 hc
  obtain ⟨_,hlen,h3⟩:=World.cells?_some h1
  have:=h3 0 (by omega)
  rw [Deep.add_add,Nat.zero_mul] at this
  rw [this]
  exact ⟨_,List.getElem?_eq_getElem (by omega)⟩
 ·simp only [List.map_map,List.getElem?_map,Option.map_eq_some_iff] at hi
  obtain ⟨r,hri,rfl⟩:=hi
  have hi:i<len:=by have:=(List.getElem?_eq_some_iff.1 hri).1;simpa using this
  obtain rfl:r=i:=by rw [List.getElem?_range hi] at hri;exact (Option.some.inj hri).symm
  refine ⟨rfl,fun j c hc=>?_⟩
  have hc:[D.int .i64 (y r)][j]?=some c:=hc
  match j,hc with
  | 0,hc=>obtain rfl:=Option.some.inj hc;exact ⟨_,hy r hi,rfl,rfl,.int _ _⟩
  | j+1,hc=>simp at hc
def Yq (W:World) (r:Gr) (v1 v2:Value):Prop:=v1.oneCell'=true∧v2.oneCell'=true∧RdD (fun b=>b<W.heap.size) W v1 (.list (r.2.1.map enI))∧RdD (fun b=>b<W.heap.size) W v2 (.list (r.2.2.map enI))
set_option maxRecDepth 100000 in
theorem Vp {n:Nat} {cs:List Value} {x:DataW H×List MemPlace} (h:DataW.trod enc Tryz.prog W 0 (fun _=>true) held n 64 cs=some x) (hw:Light 64 x.1) :
  ∃ (r:Gr) (v1 v2:Value),cs=[.int .i64 r.1,v1,v2]∧Yq W r v1 v2∧r.2.1.length≤reachBytes∧r.2.2.length≤reachBytes:=by
 have k1:Tryz.prog.cellsOf 3=1:=by kernel_rfl
 have k1':Tryz.prog.cellsOf 38=1:=by kernel_rfl
 have k3:Tryz.prog.cellsOf 64=3:=by kernel_rfl
 obtain ⟨y0,y1,y2,m,hx,hl,h0,h1,h2⟩:=Deep.trod_struct3 Tryz.underlying64 h
 rw [k3] at hl
 rw [hx] at hw
 obtain ⟨_,w1,w2⟩:=Light.YA Tryz.underlying64 hw
 match cs,hl with
 | [c0,c1,c2],_=>
   simp only [k1,k1',List.drop,List.take] at h0 h1 h2
   obtain ⟨z,e0,_,_⟩:=DataW.trod_int Tryz.underlying3 h0
   obtain ⟨v1,l1,e1,o1,r1,g1⟩:=OU h1 w1
   obtain ⟨v2,l2,e2,o2,r2,g2⟩:=OU h2 w2
   cases e0;cases e1;cases e2
   exact ⟨(z,l1,l2),_,_,rfl,⟨o1,o2,r1,r2⟩,g1,g2⟩
set_option maxRecDepth 100000 in
theorem Sz {n:Nat} {cs:List Value} {x:DataW H×List MemPlace} (h:DataW.trod enc Tryz.prog W 0 (fun _=>true) held n 23 cs=some x) (hw:Light 23 x.1) :
  ∃ (v:Value) (l:List Gr),cs=[v]∧v.oneCell'=true∧RdD (fun b=>b<W.heap.size) W v (.list (l.map enG))∧l.length≤reachBytes∧∀ r∈l,r.2.1.length≤reachBytes∧r.2.2.length≤reachBytes:=by
 have k3:Tryz.prog.cellsOf 64=3:=by kernel_rfl
 have b3:Tryz.prog.bytesOf 64=56:=by kernel_rfl
 rcases Deep.open_slice Tryz.underlying23 h with ⟨rfl,rfl⟩ | ⟨a,len,cap,m,n',DD,Pl,rfl,_,hl,hm,hmm,hx,hel⟩
 ·exact ⟨_,[],rfl,rfl,.kU _,by simp,fun _ h=>by cases h⟩
 simp only [if_true] at hmm
 subst hmm
 rw [k3] at hel
 rw [hx] at hw
 obtain ⟨hwl,hwe⟩:=Light.slice Tryz.underlying23 hw
 rw [b3] at hwl
 simp only [List.length_map,List.length_range] at hwl
 obtain ⟨y,hy⟩:=Deep.choose_lt (α:=Gr) (n:=len) (p:=fun i r=>(∃ v1 v2,W.cell? (a.add (i*3+0))=some (.int .i64 r.1)∧W.cell? (a.add (i*3+1))=some v1∧W.cell? (a.add (i*3+2))=some v2∧Yq W r v1 v2)∧r.2.1.length≤reachBytes∧r.2.2.length≤reachBytes) (fun i hi=>by
  obtain ⟨cs',h1,h2⟩:=hel i (by omega)
  obtain ⟨r,v1,v2,rfl,hr,g1,g2⟩:=Vp h2 (hwe _ (List.mem_map.2 ⟨i,List.mem_range.2 hi,rfl⟩))
  obtain ⟨_,_,h3⟩:=World.cells?_some h1
  have e0:=h3 0 (by omega)
  have e1:=h3 1 (by omega)
  have e2:=h3 2 (by omega)
  rw [Deep.add_add] at e0 e1 e2
  exact ⟨r,⟨v1,v2,by simpa using e0,by simpa using e1,by simpa using e2,hr⟩,g1,g2⟩)
 refine ⟨_,(List.range len).map y,rfl,rfl,?_,by simp;omega,fun r hr=>?_⟩
 ·refine Hz (sz:=3) (by simp) hl hm (by decide) (fun hc=>?_) fun i x hi=>?_
  ·obtain ⟨cs',h1,_⟩:=hel 0 hc
   obtain ⟨_,hlen,h3⟩:=World.cells?_some h1
   have:=h3 0 (by omega)
   rw [Deep.add_add,Nat.zero_mul] at this
   rw [this]
   exact ⟨_,List.getElem?_eq_getElem (by omega)⟩
  ·simp only [List.map_map,List.getElem?_map,Option.map_eq_some_iff] at hi
   obtain ⟨r,hri,rfl⟩:=hi
   have hi:i<len:=by have:=(List.getElem?_eq_some_iff.1 hri).1;simpa using this
   obtain rfl:r=i:=by rw [List.getElem?_range hi] at hri;exact (Option.some.inj hri).symm
   obtain ⟨⟨v1,v2,c0,c1,c2,o1,o2,r1,r2⟩,_⟩:=hy r hi
   refine ⟨rfl,fun j c hc=>?_⟩
   have hc:[D.int .i64 (y r).1,D.list ((y r).2.1.map enI),D.list ((y r).2.2.map enI)][j]?=some c:=hc
   match j,hc with
   | 0,hc=>obtain rfl:=Option.some.inj hc;exact ⟨_,c0,rfl,rfl,.int _ _⟩
   | 1,hc=>obtain rfl:=Option.some.inj hc;exact ⟨v1,c1,o1,rfl,r1⟩
   | 2,hc=>obtain rfl:=Option.some.inj hc;exact ⟨v2,c2,o2,rfl,r2⟩
   | j+3,hc=>simp at hc
 ·obtain ⟨q,hq,rfl⟩:=List.mem_map.1 hr
  exact (hy q (List.mem_range.1 hq)).2
set_option maxRecDepth 100000 in
theorem Qw {r:Reach} {b0:Nat} {v:Value} {d:DataW H} {p:List MemPlace} (hval:Value.okWide Tryz.prog W r b0 25 v) (h:DataW.Trod enc Tryz.prog W 0 (fun _=>true) held 25 v d p) (hw:Light 25 d) :
  ∃ (atoms:List Tm) (rules:List Gr),RdD (fun b=>b<W.heap.size) W v (gD atoms rules)∧(∀ x∈atoms,okT x)∧atoms.length≤reachBytes∧rules.length≤reachBytes∧∀ r∈rules,r.2.1.length≤reachBytes∧r.2.2.length≤reachBytes:=by
 have k1:Tryz.prog.cellsOf 22=1:=by kernel_rfl
 have k1':Tryz.prog.cellsOf 23=1:=by kernel_rfl
 have k2:Tryz.prog.cellsOf 25=2:=by kernel_rfl
 have b2:Tryz.prog.bytesOf 52=40:=by kernel_rfl
 obtain ⟨vs,rfl,hsz⟩:=okWide_struct Tryz.underlying25 hval
 obtain ⟨fuel,h⟩:=h
 obtain ⟨y0,y1,m,hx,hl,h0,h1⟩:=trod_struct2 Tryz.underlying25 h
 rw [k2] at hsz
 obtain ⟨c0,c1,rfl⟩:∃ c0 c1,vs=#[c0,c1]:=by
  match vs,hsz with
  | ⟨[c0,c1]⟩,_=>exact ⟨c0,c1,rfl⟩
 have h0:DataW.trod enc Tryz.prog W 0 (fun _=>true) held m 22 [c0]=some y0:=by
  rw [k1] at h0;exact h0
 have h1:DataW.trod enc Tryz.prog W 0 (fun _=>true) held m 23 [c1]=some y1:=by
  rw [k1'] at h1;exact h1
 have hd:d = .agg [y0.1,y1.1]:=congrArg Prod.fst hx
 subst hd
 obtain ⟨w0,w1⟩:=Light.YB Tryz.underlying25 hw
 obtain ⟨va,la,ea,oa,ra,hok,_,hsl⟩:=Na h0 (fun n' cs' y _ hh=>Sv _ n' cs' y (Nat.lt_succ_self _) hh)
 obtain ⟨vr,lr,er,orr,rr,g1,g2⟩:=Sz h1 w1
 cases ea;cases er
 refine ⟨la,lr,?_,hok,?_,g1,g2⟩
 ·refine .agg _ _ rfl (fun i v c hv hc=>?_) (fun i v c hv hc=>?_)
  ·match i,hv,hc with
   | 0,hv,hc=>cases hv;cases hc;exact ra
   | 1,hv,hc=>cases hv;cases hc;exact rr
   | i+2,hv,hc=>simp at hc
  ·match i,hv,hc with
   | 0,hv,hc=>cases hv;cases hc;exact ⟨oa,rfl⟩
   | 1,hv,hc=>cases hv;cases hc;exact ⟨orr,rfl⟩
   | i+2,hv,hc=>simp at hc
 ·rcases hsl with rfl | ⟨ds,sp,hy,hlen⟩
  ·simp
  ·rw [hy] at w0
   have:=(Light.slice Tryz.underlying22 w0).1
   rw [b2] at this
   omega
set_option maxRecDepth 100000 in
theorem SB {r:Reach} {b0:Nat} {v:Value} {d:DataW H} {p:List MemPlace} (hval:Value.okWide Tryz.prog W r b0 22 v) (h:DataW.Trod enc Tryz.prog W 0 (fun _=>true) held 22 v d p) (hw:Light 22 d) :
  ∃ names:List Tm,RdD (fun b=>b<W.heap.size) W v (.list (names.map enT))∧(∀ x∈names,okT x)∧names.length≤reachBytes:=by
 have b2:Tryz.prog.bytesOf 52=40:=by kernel_rfl
 obtain ⟨a,len,cap,rfl⟩:=okWide_slice Tryz.underlying22 hval
 obtain ⟨fuel,h⟩:=h
 obtain ⟨va,la,ea,oa,ra,hok,_,hsl⟩:=Na (x:=(d,p)) h (fun n' cs' y _ hh=>Sv _ n' cs' y (Nat.lt_succ_self _) hh)
 have ev:Value.slice a len cap=va:=by simpa [Value.cells] using ea
 subst ev
 refine ⟨la,ra,hok,?_⟩
 rcases hsl with rfl | ⟨ds,sp,hy,hlen⟩
 ·simp
 ·have hy:d = .slice ds sp:=hy
  rw [hy] at hw
  have:=(Light.slice Tryz.underlying22 hw).1
  rw [b2] at this
  omega
end
end Go.Proofs.YtdonenoiehdahaaGreat
namespace Go.Proofs.YtdonenoiehdahaaGreat
open Go Go.RowKit
theorem gok (w:World):Abs.GOK (fun b=>b<w.heap.size) w:=fun g h=>absurd (Abs.XD g) h
open Go.ChangeShapes Go.WideShapes Go.ChangeAt
theorem Nj {H:Type} {enc:TypeId×Value→H} {P:Program} {f:Func} {s:ChangeSpec} {apart fresh handsOn again:Bool} {W W':World} {args:Array Value} {v:Value} {ds gs:List (DataW H)} {before pa pv:List MemPlace}
  (hW:DataW.Whole enc P f.params.toList s.vars apart W args.toList ds gs before) (hb:Below W.heap.size W W')
  (hres:∀ (b:Nat) (sp:Nat→Bool) (hd:Bool),DataW.TrodAll enc P W' b sp hd f.resultTypes.toList (v.resultList f.resultTypes.size) (s.fn H (ds++gs)).results [])
  (hargs:∀ sp:Nat→Bool,(∀ p∈before,sp p.block=true)→DataW.TrodAll enc P W' 0 sp true f.params.toList args.toList (s.fn H (ds++gs)).args pa)
  (hvars:∀ sp:Nat→Bool,(∀ p∈before,sp p.block=true)→DataW.TrodVars enc P W' sp s.vars (s.fn H (ds++gs)).vars pv)
  (hps:before=pa++pv)
  (hok:∀ (j:Nat) (t:TypeId) (r:Value),f.resultTypes[j]?=some t→(v.resultList f.resultTypes.size)[j]?=some r→Value.okWide P W' .any 0 t r) :
  s.post enc P f apart fresh handsOn again W args v W':=by
 have hlt:∀ p∈before,p.block<W.heap.size:=fun p hp=>by simpa using hW.lt p hp
 have hd:∀ p∈before,(fun b=>decide (b<W.heap.size)) p.block=true:=fun p hp=>by simpa using hlt p hp
 have ht:∀ p∈before,(fun _:Nat=>true) p.block=true:=fun _ _=>rfl
 refine ⟨ds,gs,before,[],pa,pv,hW,hres _ _ _,hargs _ hd,hvars _ hd,hb.frame _,fun _=>⟨hok,(s.fn H (ds++gs)).results++(s.fn H (ds++gs)).args,(s.fn H (ds++gs)).vars,before,⟨pa,pv,trodAll_append (hargs _ ht) (hres _ _ _),hvars _ ht,hps,fun b off hp=>?_,?_⟩,fun p hp _=>hp⟩⟩
 ·obtain ⟨_,_,_,_,_,hz,_⟩:=hW
  exact (hb.frozen (hlt _ hp)).trans (hz b off hp)
 ·obtain ⟨_,_,_,_,_,_,hn⟩:=hW
  exact hn
theorem own:ownKnob Tryz.prog.godebug=none:=by kernel_rfl
theorem laidOut:laidOutB Tryz.prog=true:=by kernel_rfl
set_option maxRecDepth 100000 in
theorem contract (H:Type) (enc:TypeId×Value→H) (W:World) (args:Array Value) (ds gs:List (DataW H)) (before:List MemPlace) (base:Nat)
  (hval:∀ (j:Nat) t v,Tryz.f4.params[j]?=some t→args[j]?=some v→Value.okWide Tryz.prog W .any base t v)
  (hW:DataW.Whole enc Tryz.prog Tryz.f4.params.toList Rows.compileListsSpec.vars false W args.toList ds gs before)
  (hz:(DataW.weightsEach Tryz.prog (Tryz.f4.params.toList++(OpenSpec.ofChange Rows.compileListsSpec).bare.plain.varTypes Tryz.prog) (ds++gs)).all (·≤reachBytes)=true) :
  Calls Tryz.prog 4 args W fun e W'=>∃ v,e = .returned v∧Rows.compileListsSpec.post enc Tryz.prog Tryz.f4 false true false false W args v W':=by
 have hW':=hW
 obtain ⟨p,q,hA0,hV,rfl,hfz,hnd⟩:=hW
 have hA:DataW.TrodAll enc Tryz.prog W 0 (fun _=>true) true Tryz.f4.params.toList args.toList ds p:=hA0
 rw [Tryz.params4] at hA hval hz
 obtain ⟨v0,vs0,d0,ds0,p0,q0,hargs,rfl,rfl,h0,r0⟩:=trodAll_cons hA
 obtain ⟨v1,vs1,d1,ds1,p1,q1,rfl,rfl,rfl,h1,r1⟩:=trodAll_cons r0
 obtain ⟨v2,vs2,d2,ds2,p2,q2,rfl,rfl,rfl,h2,r2⟩:=trodAll_cons r1
 obtain ⟨rfl,rfl,rfl⟩:=trodAll_nil r2
 obtain rfl:args=#[v0,v1,v2]:=by cases args;simp_all
 obtain ⟨rfl,rfl⟩:=trodVars_none hV
 clear hA0 hA
 have hwt:∀ x,x∈DataW.weightsEach Tryz.prog [25,22,4] [d0,d1,d2]→x≤reachBytes:=fun x hm=>
  of_decide_eq_true (List.all_eq_true.1 hz x hm)
 have hw0:Light 25 d0:=fun x hx=>hwt x (by
  simp only [DataW.weightsEach]
  exact List.mem_append_left _ hx)
 have hw1:Light 22 d1:=fun x hx=>hwt x (by
  simp only [DataW.weightsEach]
  exact List.mem_append_right _ (List.mem_append_left _ hx))
 obtain ⟨atoms,rules,hb,hok,g1,g2,g3⟩:=Qw (hval 0 25 v0 rfl rfl) h0 hw0
 obtain ⟨names,hn,hokn,g4⟩:=SB (hval 1 22 v1 rfl rfl) h1 hw1
 obtain ⟨bb,rfl⟩:=okWide_bool Tryz.underlying4 (hval 2 4 v2 rfl rfl)
 have hR:reachBytes≤4000000000000000000:=by decide
 refine ((Tryz.compileLists Tryz.alive atoms rules names bb hok (by omega) (by omega) (fun r hr=>by have:=g3 r hr;omega) hokn (by omega)).calls (fun b=>b<W.heap.size) W #[v0,v1,.bool bb] (gok W) (fun _ h=>h) rfl (fun i u d' hu hd=>?_)).mono fun e W' ⟨v,he,hf,hr⟩=>?_
 ·match i with
  | 0=>simp at hu hd;subst hu;subst hd;exact hb
  | 1=>simp at hu hd;subst hu;subst hd;exact hn
  | 2=>simp at hu hd;subst hu;subst hd;exact .bool _
  | i+3=>simp at hu
 have hg:Below W.heap.size W W':=⟨hf.os,hf.tape,hf.output,hf.size,fun b hb=>hf.lN b hb⟩
 subst he
 have hv:v = .bool true:=by cases hr;rfl
 subst hv
 have hlt:∀ x∈p0++(p1++(p2++[]))++[],x.block<W.heap.size:=fun x hx=>by simpa using hW'.lt x hx
 refine ⟨_,rfl,Nj (pa:=p0++(p1++(p2++[]))) (pv:=[]) hW' hg (fun _ _ _=>trodAll_cons_mk (shut_bool Tryz.underlying4 _) trodAll_mk0) (fun sp hs=>?_) (fun _ _=>rfl) rfl (ok_one (by kernel_rfl) rfl (okWide_bool_mk Tryz.underlying4 _))⟩
 have e0:=WideElems.Trod_stays (sp':=sp) (W':=W') laidOut (by kernel_rfl) (of_decide_eq_true (by kernel_rfl)) h0 (fun x hx=>hg.same (hlt x (by simp [hx]))) (fun x hx=>hs x (by simp [hx]))
 have e1:=WideElems.Trod_stays (sp':=sp) (W':=W') laidOut (by kernel_rfl) (of_decide_eq_true (by kernel_rfl)) h1 (fun x hx=>hg.same (hlt x (by simp [hx]))) (fun x hx=>hs x (by simp [hx]))
 have e2:=WideElems.Trod_stays (sp':=sp) (W':=W') laidOut (by kernel_rfl) (of_decide_eq_true (by kernel_rfl)) h2 (fun x hx=>hg.same (hlt x (by simp [hx]))) (fun x hx=>hs x (by simp [hx]))
 exact trodAll_cons_mk e0 (trodAll_cons_mk e1 (trodAll_cons_mk e2 trodAll_mk0))
end Go.Proofs.YtdonenoiehdahaaGreat
namespace Go.Proofs.YtdonenoiehdahaaGreat
open Go Go.RowKit Go.ChangeShapes Go.WideShapes Go.ChangeAt
theorem laid_met (W:World):laidMet Tryz.prog Rows.compileListsRow.laid W:=⟨[],rfl,List.nodup_nil,fun _ _ h=>by cases h⟩
theorem reads (os:Os) {H:Type} (enc:TypeId×Value→H):∃ places,DataW.whole enc Tryz.prog ((World.holding Tryz.prog os ⟨#[],#[],[]⟩).forCall (fun _ _=>0) ⟨#[],#[.agg #[.slice none 0 0,.slice none 0 0],.slice none 0 0,.bool false],[]⟩).memory Tryz.f4.params.toList Rows.compileListsSpec.vars false #[Value.agg #[.slice none 0 0,.slice none 0 0],.slice none 0 0,.bool false].toList 8=some ([.agg [.nil,.nil],.nil,.lit (.bool false)],[],places):=
 ⟨[],by kernel_rfl⟩
set_option maxRecDepth 100000 in
theorem lifted (os:Os) (started:os.Started) (H:Type) (enc:TypeId×Value→H) (F:Stop.Interp) :
  ReturnsInHanded {} Tryz.checked os 4 .any ((OpenSpec.ofChange Rows.compileListsSpec).preRow enc Tryz.prog Tryz.f4 Rows.compileListsRow.domain false Rows.compileListsRow.laid) (((OpenSpec.ofChange Rows.compileListsSpec).at F).post enc Tryz.prog Tryz.f4 false true false false):=by
 obtain ⟨places,hx⟩:=reads os enc
 refine returnsInHanded_of_row (C:=Tryz.checked) (s:=OpenSpec.ofChange Rows.compileListsSpec) own started (by kernel_rfl) Tryz.func4
  (witness_row_at (enc:=enc) (C:=Tryz.checked) false (World.holding Tryz.prog os ⟨#[],#[],[]⟩) #[.agg #[.slice none 0 0,.slice none 0 0],.slice none 0 0,.bool false] rfl (by kernel_rfl) (by kernel_rfl) (by kernel_rfl)
   (OpenSpec.preRow_of_cond 8 hx (by kernel_rfl) (fun k hk=>by cases hk) (by kernel_rfl) (laid_met _))) ?_
 intro W base args ds gs before hval hW _ _ hz _ _ _
 exact contract H enc W args ds gs before base hval hW hz
theorem band {a b:Bool} (h:a=true) (k:b=true):(a&&b)=true:=by rw [h,k];rfl
theorem j_inPlace:(Rows.compileListsRow.inPlace==Tryz.pinned.checked.prog.inPlace 4)=true:=by kernel_rfl
theorem j_unf:(Rows.compileListsRow.unfollowed==Tryz.pinned.checked.prog.unfollowed 4)=true:=by kernel_rfl
theorem j_rec:(Rows.compileListsRow.recurses==Tryz.pinned.checked.prog.recurses 4)=true:=by kernel_rfl
theorem j_named:(Rows.compileListsRow.named==Tryz.pinned.checked.prog.varsNamed 4)=true:=by kernel_rfl
theorem j_lift:(Rows.compileListsRow.lifted==Tryz.pinned.checked.prog.liftsFinal)=true:=by kernel_rfl
theorem TB:joinedFacts Tryz.pinned.checked.prog 4 Tryz.f4 (OpenSpec.ofChange Rows.compileListsSpec).bare Rows.compileListsRow=true:=by
 unfold joinedFacts
 exact band (band (band (band (band (band (band (band (band (band (band (band (band (band (band (band (band (band (band (band (band (band (band (by kernel_rfl) j_inPlace) j_unf) j_rec) j_named) (by kernel_rfl)) (by kernel_rfl)) (by kernel_rfl)) (by kernel_rfl)) (by kernel_rfl)) (by kernel_rfl)) (by kernel_rfl)) (by kernel_rfl)) (by kernel_rfl)) (by kernel_rfl)) (by kernel_rfl)) (by kernel_rfl)) (by kernel_rfl)) j_lift) (by kernel_rfl)) (by kernel_rfl)) (by kernel_rfl)) (by kernel_rfl)) (by kernel_rfl)
set_option maxRecDepth 100000 in
theorem said:Rows.CompileListsSaid:=
 OpenClaim.holds_of_cond 4 Tryz.f4 rfl rfl rfl rfl rfl rfl rfl ⟨rfl,rfl,rfl,rfl,rfl⟩ rfl rfl rfl rfl rfl (by kernel_rfl) Tryz.func4 TB
  (of_decide_eq_true (by kernel_rfl)) (by unfold Func.isWrapper;first | (rw [if_pos (by decide +kernel)];kernel_rfl) | (rw [if_neg (by decide +kernel)];exact ⟨rfl,rfl⟩))
  (fun os started H enc _ F=>by rw [OpenClaim.pre_eq_preRow];exact lifted os started H enc F)
#print axioms said
end Go.Proofs.YtdonenoiehdahaaGreat
