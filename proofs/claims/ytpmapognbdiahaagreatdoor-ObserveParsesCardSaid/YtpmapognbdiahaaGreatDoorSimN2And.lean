/- Sim: regions whose order is drawn: what the run in the canonical order shows. -/
import Derived.Test.YtpmapognbdiahaaGreatDoorSimJAnd
set_option linter.all false
namespace Go.Sim
open Go Go.RowKit
open Go.Abs (TE TK SK TOK TFacts patch size_patch patch_in patch_out)
theorem Ns (b:B):EW b=b.num:=rfl
theorem eqB {a b:B} (h:Nat.beq (EW a) (EW b)=true):a=b:=by
 have:=beq_iff.1 h;rw [Ns,Ns] at this;exact B.eG this
theorem Fq {a b:Int} (h:eqI a b=true):a=b:=by
 cases a<;>cases b<;>simp [eqI] at h<;>first | (rw [h]) | cases h
theorem Fp {a b:Option Nat} (h:eqO a b=true):a=b:=by
 cases a<;>cases b<;>first | rfl | cases h | (rw [beq_iff.1 h])
theorem DL {a b:V} (h:U8 a b=true):a=b:=by
 unfold U8 at h;split at h<;>first | rfl | skip
 ·rw [kG.1 h]
 ·obtain ⟨h1,h2⟩:=aB h;rw [jI h1,Fq h2]
 ·obtain ⟨h1,h2⟩:=aB h;rw [beq_iff.1 h1,beq_iff.1 h2]
 ·obtain ⟨h1,h2⟩:=aB h;rw [eqB h1,beq_iff.1 h2]
 ·obtain ⟨h1,h2⟩:=aB h;obtain ⟨h3,h4⟩:=aB h1;obtain ⟨h5,h6⟩:=aB h2;obtain ⟨h7,h8⟩:=aB h6;rw [eqB h3,beq_iff.1 h4,beq_iff.1 h5,beq_iff.1 h7,Fp h8]
 ·rw [eqB h]
 ·rw [beq_iff.1 h]
 ·cases h
theorem mV:∀ {a b:List V},Bd a b=true→a=b
 | [],[],_=>rfl
 | [],_::_,h=>by cases h
 | _::_,[],h=>by cases h
 | x::a,y::b,h=>by
   obtain ⟨h1,h2⟩:=aB (show and (U8 x y) (Bd a b)=true from h);rw [DL h1,mV h2]
theorem I7 {a b:V} (h:eqW a b=true):a=b:=by
 cases a with
 | agg xs=>cases b<;>first | (rw [mV (show Bd xs _=true from h)]) | exact absurd h (by simp [eqW,asAgg])
 | tup xs=>cases b<;>first | (rw [mV (show Bd xs _=true from h)]) | exact absurd h (by simp [eqW,asAgg,Au])
 | fn f xs ys=>
   cases b with
   | fn f' xs' ys'=>
     obtain ⟨h1,h2⟩:=aB (show and (Nat.beq f f') (and (Bd xs xs') (Bd ys ys'))=true from h);obtain ⟨h3,h4⟩:=aB h2;rw [beq_iff.1 h1,mV h3,mV h4]
   | _=>exact absurd (show false=true from h) (by decide)
 | _=>exact DL h
section
variable {P:Program} {T:Nat→TE} {w0:World} {ng:Nat}
theorem Jd {o:Oper} {h:H} (hq:HQ P T w0 ng o h) {call:Cl} (hc:jd P T w0 ng call) {back:Nat} {hs:List (Tr Obj×B)} {vals:List V} {t:Tr Obj} {nx:B} {K:KV} {r:R} (hr:∀ n,R.bad n≠r) (hh:wZ back hs h T call vals t nx K=r) :
  ∃ v,K v t nx=r∧∀ i,i≤back→∃ x:Tr Obj×B,hs[i]?=some x∧QT P T w0 ng o vals x.1 x.2 v:=by
 cases hs with
 | nil=>exact absurd hh (hr _)
 | cons h0 hs=>
   obtain ⟨v,k1,k2⟩:=hq call hc vals h0.1 h0.2 _ r hr hh;have key:∀ (n:Nat) (hs:List (Tr Obj×B)) (e:R),adT n hs (fun t' nx' e=>h T call vals t' nx' fun v' _ _=>aJ (eqW v v') e (.bad 131)) e=r→e=r∧∀ i,i<n→∃ x:Tr Obj×B,hs[i]?=some x∧QT P T w0 ng o vals x.1 x.2 v:=by
    intro n
    induction n with
    | zero=>intro hs e he;exact ⟨he,fun i hi=>by omega⟩
    | succ n ih=>
      intro hs e he;cases hs with
      | nil=>exact absurd he (hr _)
      | cons x hs=>
        obtain ⟨v',q1,q2⟩:=hq call hc vals x.1 x.2 _ r hr he;obtain ⟨q3,q4⟩:=aG q1 (hr _);have:=I7 q3;subst this;obtain ⟨q5,q6⟩:=ih hs e q4;refine ⟨q5,fun i hi=>?_⟩;cases i with
        | zero=>exact ⟨x,rfl,q2⟩
        | succ i=>obtain ⟨y,y1,y2⟩:=q6 i (by omega);exact ⟨y,by simpa using y1,y2⟩
   obtain ⟨q5,q6⟩:=key back hs _ k1;refine ⟨v,q5,fun i hi=>?_⟩;cases i with
   | zero=>exact ⟨h0,rfl,k2⟩
   | succ i=>obtain ⟨y,y1,y2⟩:=q6 i (by omega);exact ⟨y,by simpa using y1,y2⟩
structure Reg (T:Nat→TE) (w0:World) (ng:Nat) (b:Nat) (g:Gh) (hp:B→Option Obj) (t:Tr Obj) (nx:B) (w:World) (g':Gh) (hp':B→Option Obj) (t':Tr Obj) (nx':B):Prop where
 ext:Ext g g' nx.num
 le:nx.num≤nx'.num
 hr:HR T w0 ng g' hp' nx' w
 sub:Sub t' hp'
 fr:Fr t nx hp hp'
 dm:Dm t nx t'
 pl:∀ id o,B.get id t'=some o→(B.get id t=some o∧g' id=g id)∨(g' id).b=b
 pl2:∀ id o,hp' id=some o→(hp id=some o∧g' id=g id)∨(nx.num≤id.num∧(g' id).b=b)
def Jk (P:Program) (T:Nat→TE) (w0:World) (ng:Nat) (o:Oper) (vals:List V) (t:Tr Obj) (nx:B) (x:V) (t':Tr Obj) (nx':B):Prop:=
 ∀ (g:Gh) (n:Nat) (ρ:Operand→Value) (w:World),RVL g n vals (o.op.operands.toList.map ρ)→∃ u ob,(execOp ρ o).run P w = .ok (.value u) (w.alloc ob) ∧
   ∀ g1 hp1 w1,HR T w0 ng g1 hp1 nx w1→Sub t hp1→Ext g g1 n→n≤nx.num→w1.heap[w.heap.size]?=some ob→w0.heap.size≤w.heap.size→(∀ id o,hp1 id=some o→(g1 id).b≠w.heap.size) →
     ∃ g' hp',Reg T w0 ng w.heap.size g1 hp1 t nx w1 g' hp' t' nx'∧RV g' nx'.num x u
theorem Like.refl {ng:Nat} (w:World):Like ng w w:=⟨rfl,rfl,rfl,Nat.le_refl _,fun _=>Nat.le_refl _⟩
theorem Reg.new {g:Gh} {hp:B→Option Obj} {t:Tr Obj} {nx:B} {w:World} (h:HR T w0 ng g hp nx w) (hs:Sub t hp) {b n:Nat} (hb:w0.heap.size≤b) (hfree:∀ id o,hp id=some o→(g id).b≠b) {o:Obj} (hobj:kJ T (dL g nx ⟨b,0,n⟩) nx.inc.num w nx o) :
  Reg T w0 ng b g hp t nx w (dL g nx ⟨b,0,n⟩) (eX hp nx (some o)) (nx.put t (some o)) nx.inc:=by
 have hnx:=B.fO nx;refine ⟨lC (Nat.le_refl _),by omega,h.add (Like.refl w) (fun _ _ _=>rfl) hb hfree hobj h.ngx,pX hs _ _,fun id hi hn=>?_,fun id hi hn=>?_,fun id o' h1=>?_,fun id o' h1=>?_⟩
 ·unfold eX;rw [if_neg (fun e=>by rw [e] at hi;omega)]
 ·rw [B.get_put,if_neg (fun e=>by rw [e] at hi;omega)];exact hn
 ·rw [B.get_put] at h1;unfold dL;split at h1
  ·rename_i e;rw [if_pos e];exact .inr rfl
  ·rename_i e;rw [if_neg e];exact .inl ⟨h1,rfl⟩
 ·unfold eX at h1;unfold dL;split at h1
  ·rename_i e;rw [if_pos e];exact .inr ⟨by rw [e];exact Nat.le_refl _,rfl⟩
  ·rename_i e;rw [if_neg e];exact .inl ⟨h1,rfl⟩
theorem Reg.refl {g:Gh} {hp:B→Option Obj} {t:Tr Obj} {nx:B} {w:World} (h:HR T w0 ng g hp nx w) (hs:Sub t hp) (b:Nat):Reg T w0 ng b g hp t nx w g hp t nx:=
 ⟨.refl _ _,Nat.le_refl _,h,hs,fun _ _ _=>rfl,fun _ _ h=>h,fun _ _ h => .inl ⟨h,rfl⟩,fun _ _ h => .inl ⟨h,rfl⟩⟩
theorem LM {g:Gh} {hp:B→Option Obj} {t:Tr Obj} {nx:B} {w:World} (h:HR T w0 ng g hp nx w) (hs:Sub t hp) {b:Nat} (hb:w0.heap.size≤b) (hfree:∀ id o,hp id=some o→(g id).b≠b) {cur:Array Value} {Tb:TypeId}
  (hw:w.heap[b]?=some (.cells cur Tb (0,0))) {cs:Tr V} {m:Nat} (hc:CR g nx.num cs cur) (hm:m≤cur.size) (hlt:∀ j v,(bOf j).get cs=some v→j<m) :
  Reg T w0 ng b g hp t nx w (dL g nx ⟨b,0,cur.size⟩) (eX hp nx (some (.blk false m m cs))) (nx.put t (some (.blk false m m cs))) nx.inc:=by
 have hext:Ext g (dL g nx ⟨b,0,cur.size⟩) nx.num:=lC (Nat.le_refl _);have hgn:dL g nx ⟨b,0,cur.size⟩ nx=⟨b,0,cur.size⟩:=by simp [dL]
 refine .new h hs hb hfree ⟨cur,Tb,(0,0),by rw [hgn];exact hw,fun _=>rfl,by rw [hgn];simp,by rw [hgn];exact hm,fun j v hv=>?_⟩;obtain ⟨u,h1,h2,h3⟩:=hc j v hv;exact ⟨hlt j v hv,u,by rw [hgn];simpa using h1,h2.mono hext (by rw [B.fO];omega),h3⟩
theorem QE (hT:TOK P T) {o:Oper} {ty:Nat} (ho:o.op = .alloc ty) {call:Cl} {vals:List V} {t:Tr Obj} {nx:B} {K:KV} {r:R} (hr:∀ n,R.bad n≠r) (h:KQ ty T call vals t nx K=r) :
  ∃ v t' nx',K v t' nx'=r∧Jk P T w0 ng o vals t nx v t' nx':=by
 obtain ⟨hkn,k1⟩:=aG h (hr _);obtain ⟨h1,k2⟩:=zA hr k1;obtain ⟨d,i,hf⟩:=hT.facts (Abs.TE.bg hkn);refine ⟨_,_,_,k2,fun g n ρ w _=>⟨_,.cells (T ty).zero.cells ty,by simp [execOp,ho,Instr.alloc,zeroValue,typeInfo,hf.info,hf.zero,newVar,Go.newRow];rfl,fun g1 hp1 w1 e1 e2 e3 e4 e5 e6 e7=>?_⟩⟩;have hv:=qL g1 nx.num (T ty).zero;obtain ⟨q1,q2⟩:=hv.cells h1;have hc:CR g1 nx.num (fB (cellsOf (cV (T ty).zero)) .lf 0) (T ty).zero.cells:=CR.MJ (us:=(T ty).zero.cells.toList) (by simpa using q1) (fun i c x hc hx=>q2 i c x hc (by simpa using hx)) (fun i hi=>by simp);refine ⟨_,_,LM e1 e2 e6 e7 e5 hc (m:=(cellsOf (cV (T ty).zero)).length) (by omega) (tH Nz (by omega)),?_⟩;have:=RV.ptr (g:=dL g1 nx ⟨w.heap.size,0,(T ty).zero.cells.size⟩) (n:=nx.inc.num) nx 0 (by rw [B.fO];omega)
 simpa [dL] using this
theorem IK {o:Oper} {ty:Nat} (ho:o.op = .makeMap ty none) {call:Cl} {vals:List V} {t:Tr Obj} {nx:B} {K:KV} {r:R} (hr:∀ n,R.bad n≠r) (h:zS ty T call vals t nx K=r) :
  ∃ v t' nx',K v t' nx'=r∧Jk P T w0 ng o vals t nx v t' nx':=by
 obtain ⟨kt,et,hk,k1⟩:=tZ h (hr _);rw [B.eu,B.E8] at k1;refine ⟨_,_,_,k1,fun g n ρ w _=>⟨_,.map #[] 0,by simp [execOp,ho,Instr.makeMap,newObj,Sem.run];rfl,fun g1 hp1 w1 e1 e2 e3 e4 e5 e6 e7=>?_⟩⟩;refine ⟨_,_,Reg.new (n:=0) e1 e2 e6 e7 (o := .map kt []) ⟨#[],0,by simp only [dL,if_true];exact e5,rfl,fun i m e hm=>by simp at hm,fun e he=>by simp at he,by simp [Stamped]⟩,?_⟩;have:=RV.map (g:=dL g1 nx ⟨w.heap.size,0,0⟩) (n:=nx.inc.num) nx (by rw [B.fO];omega)
 simpa [dL] using this
theorem zX (hT:TOK P T) {o:Oper} {t len:Nat} {ps:Array (Nat×Operand)} (ho:o.op = .buildSlice t len ps) {call:Cl} {vals:List V} {hh:Tr Obj} {nx:B} {K:KV} {r:R} (hr:∀ n,R.bad n≠r) (h:oU t len ps.toList T call vals hh nx K=r) :
  ∃ v t' nx',K v t' nx'=r∧Jk P T w0 ng o vals hh nx v t' nx':=by
 obtain ⟨e,he,k1⟩:=eF h (hr _);obtain ⟨b1,k2⟩:=aG k1 (hr _);obtain ⟨hkn,b2⟩:=aB b1;obtain ⟨hpos,hbig⟩:=aB b2;have hpos':=aN.1 hpos;have hbig':len*(T e).size≤16777216:=aY.1 hbig;have hu:=hT.slc (jF he);obtain ⟨d,i,hf⟩:=hT.facts (Abs.TE.bg hkn);have hzs:(T e).zero.cells.size=(T e).size:=hf.kQ;rw [iU] at k2;split at k2
 ·rename_i hl;subst hl;cases hps:ps.toList with
  | cons p q=>rw [hps] at k2;exact absurd k2 (hr _)
  | nil=>
    rw [hps] at k2;have hp0:ps=#[]:=Array.toList_eq_nil_iff.1 hps;subst hp0;refine ⟨_,_,_,k2,fun g n ρ w g3=>?_⟩;have hrun:(execOp ρ o).run P w = .ok (.value (.slice (some ⟨w.heap.size,0,none⟩) 0 0)) (w.alloc (.cells #[] e)):=by
     simp [execOp,ho,Instr.buildSlice,run_underlying hu,hf.sizeOf,Go.newRow,Instr.fill,Array.range_zero']
    exact ⟨_,_,hrun,fun g1 hp1 w1 e1 e2 _ _ _ _ _=>⟨_,_,.refl e1 e2 _,.gq _⟩⟩
 ·rename_i hl;obtain ⟨cs0,k3,z1,z2⟩:=yH k2 hr;have hlen0:0<len:=Nat.pos_of_ne_zero hl;have hne:len*(T e).size≠0:=by have:=Nat.mul_pos hlen0 hpos';omega
  have hin:uT (fun i=>aJ (Nat.blt i len) (some (Nat.mul i (T e).size,(T e).size)) none) (len*(T e).size):=fun i o z h=>by
   simp only [aQ] at h;split at h
   ·rename_i hi;simp at h;obtain ⟨rfl,rfl⟩:=h;have:=Nat.mul_le_mul_right (T e).size (show i+1≤len from aN.1 hi);rw [Nat.succ_mul] at this;exact this
   ·cases h
  have hpl:∀ i p,(fun i=>aJ (Nat.blt i len) (some (Nat.mul i (T e).size,(T e).size)) none) i=some p→(fun i=>some (i*(T e).size,(T e).size)) i=some p:=fun i p h=>by
   simp only [aQ] at h;split at h
   ·exact h
   ·cases h
  have run:∀ (ρ:Operand→Value) (w:World) arr',Instr.fill (fun i=>some (i*(T e).size,(T e).size)) (madeCells (T e).zero.cells (len*(T e).size)) (ps.toList.map fun p=>(p.1,ρ p.2))=some arr' →
    (execOp ρ o).run P w = .ok (.value (.slice (some ⟨w.heap.size,0,none⟩) len len)) (w.alloc (.cells arr' e)):=fun ρ w arr' hf'=>by
   have hbig2:¬ (16777216<len*(T e).size):=(by omega);have hz:(zeroValue e).run P w = .ok (T e).zero w:=(by simp [zeroValue,typeInfo,hf.info,hf.zero]);have hf2:Instr.fill (fun i=>some (i*(T e).size,(T e).size)) ((Array.range (len*(T e).size)).map (fun q=>(T e).zero.cells[q % (T e).zero.cells.size]!)) (ps.map fun (p:Nat×Operand)=>(p.1,ρ p.2)).toList=some arr':=by
    rw [jY];exact hf'
   simp [execOp,ho,Instr.buildSlice,run_underlying hu,hf.sizeOf,Go.newRow,hbig2,hne,hz];have f1'':=hf2;simp only [Array.toList_map] at f1'';simp [f1'']
  obtain ⟨csF,k5,k6,k7⟩:=je hin hpl hr k3;simp only [aI,gy] at k5;refine ⟨_,_,_,k5,fun g n ρ w g3=>?_⟩;obtain ⟨arr',f1,f2,f3⟩:=k7 g n ρ (madeCells (T e).zero.cells (len*(T e).size)) (by simpa [ho,Op.operands,Function.comp_def] using g3) (size_madeCells _ _) (z1 g n _ (fun i hi=>uf _ _ (by omega) i (by rw [← hzs];exact hi)));have f4:=k6 (by rw [← hzs];exact z2);refine ⟨_,_,run ρ w arr' f1,fun g1 hp1 w1 e1 e2 e3 e4 e5 e6 e7=>?_⟩;refine ⟨_,_,LM e1 e2 e6 e7 e5 (f3.mono e3 e4) (m:=len*(T e).size) (by omega) f4,?_⟩;exact .sl nx (T e).size 0 len (some len) _ len (by rw [B.fO];omega) (Nat.le_refl _) (by simp only [maxL];have:=Nat.le_mul_of_pos_right len hpos';omega) (fun k hk=>by simpa using hk) hpos' (by simp [dL];omega) (fun _=>by simp [dL])
theorem TB (hT:TOK P T) (o:Oper) (hz:Qv o.op=true) {call:Cl} {vals:List V} {t:Tr Obj} {nx:B} {K:KV} {r:R} (hr:∀ n,R.bad n≠r) (h:opH o.op ng T call vals t nx K=r):∃ v t' nx',K v t' nx'=r∧Jk P T w0 ng o vals t nx v t' nx':=by
 generalize hop:o.op=op at hz h;cases op<;>try (cases hz;done)
 case alloc ty=>exact QE (call:=call) hT hop hr h
 case makeMap ty x=>
  cases x with
  | none=>exact IK (call:=call) hop hr h
  | some y=>cases hz
 case buildSlice ty len ps=>exact zX (call:=call) hT hop hr h
end
section
variable {P:Program} {T:Nat→TE} {w0:World} {ng:Nat}
structure pK (P:Program) (T:Nat→TE) (w0:World) (ng:Nat) (all:List Oper) (x:Rec) (env env':Tr V) (h h':Tr Obj×B) (hs hs':List (Tr Obj×B)) (b:Bool) (v:V):Prop where
 at_:all[x.k]?=some x.o
 wd:Wd all ng env x.o b
 en:env'=qN x.o.dst env v
 no:b=false→v = .undef∧h'=h
 hh:hs'=if x.cl=2 then h'::hs else hs
 q:b=true→x.cl=0→h'=h∧∀ i,i≤x.back→∃ y:Tr Obj×B,hs[i]?=some y∧QT P T w0 ng x.o ((bJ x.o.op).map (opV ng env)) y.1 y.2 v
 z:b=true→x.cl=1→Jk P T w0 ng x.o ((bJ x.o.op).map (opV ng env)) h.1 h.2 v h'.1 h'.2
 c:b=true→x.cl=2→OpT P T w0 ng x.o ((bJ x.o.op).map (opV ng env)) h.1 h.2 v h'.1 h'.2
def qU {α:Type} (a:α) (f:Nat→α):Nat→α | 0=>a | n+1=>f n
theorem LJ (hT:TOK P T) {call:Cl} (hc:jd P T w0 ng call) {all:List Oper} {ms:List Nat} {K:KE} {r:R} (hr:∀ n,R.bad n≠r):∀ {its:List DI} {rs:List Rec} {env:Tr V} {t:Tr Obj} {nx:B} {hs:List (Tr Obj×B)},recs all ms its=some rs→iw rs=true →
  xH its all T call ng env t nx hs K=r→∃ (E:Nat→Tr V) (H:Nat→Tr Obj×B) (hn:Nat→List (Tr Obj×B)) (b:Nat→Bool) (v:Nat→V),E 0=env∧H 0=(t,nx)∧hn 0=hs∧K (E rs.length) (H rs.length).1 (H rs.length).2=r ∧
   ∀ (p:Nat) x,rs[p]?=some x→ms[x.k]?=some x.mask∧x.looks=iQ all x.o∧pK P T w0 ng all x (E p) (E (p+1)) (H p) (H (p+1)) (hn p) (hn (p+1)) (b p) (v p)
 | [],rs,env,t,nx,hs,hrs,_,h=>by
   simp [recs] at hrs;subst hrs;exact ⟨fun _=>env,fun _=>(t,nx),fun _=>hs,fun _=>true,fun _ => .undef,rfl,rfl,rfl,h,fun p x hx=>by simp at hx⟩
 | it::its,rs,env,t,nx,hs,hrs,hone,h=>by
   unfold recs at hrs;split at hrs
   case h_2=>cases hrs
   rename_i o m r' ho hm hr';simp at hrs;subst hrs;simp only [iw,Bool.and_eq_true] at hone;obtain ⟨hx,hrest⟩:=hone;have go:∀ (env1:Tr V) (t1:Tr Obj) (nx1:B) (hs1:List (Tr Obj×B)) (b1:Bool) (v1:V),xH its all T call ng env1 t1 nx1 hs1 K=r →
     pK P T w0 ng all ⟨it.k,it.cl,it.back,o,iQ all o,m⟩ env env1 (t,nx) (t1,nx1) hs hs1 b1 v1 →
     ∃ (E:Nat→Tr V) (H:Nat→Tr Obj×B) (hn:Nat→List (Tr Obj×B)) (b:Nat→Bool) (v:Nat→V),E 0=env∧H 0=(t,nx)∧hn 0=hs∧K (E (r'.length+1)) (H (r'.length+1)).1 (H (r'.length+1)).2=r ∧
       ∀ (p:Nat) x,(⟨it.k,it.cl,it.back,o,iQ all o,m⟩::r')[p]?=some x→ms[x.k]?=some x.mask∧x.looks=iQ all x.o∧pK P T w0 ng all x (E p) (E (p+1)) (H p) (H (p+1)) (hn p) (hn (p+1)) (b p) (v p):=fun env1 t1 nx1 hs1 b1 v1 hrun hf=>by
    obtain ⟨E,H,hn,b,v,e1,e2,e3,e4,e5⟩:=LJ hT hc hr hr' hrest hrun;refine ⟨qU env E,qU (t,nx) H,qU hs hn,qU b1 b,qU v1 v,rfl,rfl,rfl,e4,fun p x hxp=>?_⟩;cases p with
    | zero=>
      simp at hxp;subst hxp;refine ⟨hm,rfl,?_⟩;show pK P T w0 ng all _ env (E 0) (t,nx) (H 0) hs (hn 0) b1 v1;rw [e1,e2,e3];exact hf
    | succ p=>exact e5 p x (by simpa using hxp)
   cases it with
   | q k back=>
     obtain ⟨o',q1,q2⟩:=kX (show lK k all _ _=r from h) (hr _);have:o'=o:=(by rw [show (DI.q k back).k=k from rfl,q1] at ho;simpa using ho);subst this;have hq:isQ o'.op=true:=hx;obtain ⟨b,hw,h1,h2⟩:=jU hr q2;cases b with
     | false=>exact go _ _ _ _ false .undef (h2 rfl) ⟨q1,hw,rfl,fun _=>⟨rfl,rfl⟩,rfl,fun e=>(by cases e),fun e=>(by cases e),fun e=>(by cases e)⟩
     | true=>
       obtain ⟨v,k1,k2⟩:=Jd (aaf (P:=P) (w0:=w0) (ng:=ng) hT o' hq) hc hr (h1 rfl);exact go _ _ _ _ true v k1 ⟨q1,hw,rfl,fun e=>(by cases e),rfl,fun _ _=>⟨rfl,k2⟩,fun _ e=>(by cases e),fun _ e=>(by cases e)⟩
   | z k=>
     obtain ⟨o',q1,q2⟩:=kX (show lK k all _ _=r from h) (hr _);have:o'=o:=(by rw [show (DI.z k).k=k from rfl,q1] at ho;simpa using ho);subst this;have hz:Qv o'.op=true:=by
      simp only [zn,DI.cl,Bool.and_eq_true] at hx;exact hx.1.1
     obtain ⟨b,hw,h1,h2⟩:=jU hr q2;cases b with
     | false=>exact go _ _ _ _ false .undef (h2 rfl) ⟨q1,hw,rfl,fun _=>⟨rfl,rfl⟩,rfl,fun e=>(by cases e),fun e=>(by cases e),fun e=>(by cases e)⟩
     | true=>
       obtain ⟨v,t1,nx1,k1,k2⟩:=TB (P:=P) (w0:=w0) hT o' hz hr (h1 rfl);exact go _ _ _ _ true v k1 ⟨q1,hw,rfl,fun e=>(by cases e),rfl,fun _ e=>(by cases e),fun _ _=>k2,fun _ e=>(by cases e)⟩
   | c k=>
     obtain ⟨o',q1,q2⟩:=kX (show lK k all _ _=r from h) (hr _);have:o'=o:=(by rw [show (DI.c k).k=k from rfl,q1] at ho;simpa using ho);subst this;obtain ⟨b,hw,h1,h2⟩:=jU hr q2;cases b with
     | false=>exact go _ _ _ _ false .undef (h2 rfl) ⟨q1,hw,rfl,fun _=>⟨rfl,rfl⟩,rfl,fun e=>(by cases e),fun e=>(by cases e),fun e=>(by cases e)⟩
     | true=>
       obtain ⟨v,t1,nx1,k1,k2⟩:=EG (P:=P) (w0:=w0) hT o' call hc _ _ _ _ r hr (h1 rfl);exact go _ _ _ _ true v k1 ⟨q1,hw,rfl,fun e=>(by cases e),rfl,fun _ e=>(by cases e),fun _ e=>(by cases e),fun _ _=>k2⟩
   | f m n a b=>exact absurd h (hr _)
end
def chp (rs:List Rec):Nat→List Nat
 | 0=>[]
 | p+1=>match rs[p]? with | some x=>if x.cl=2 then p::chp rs p else chp rs p | none=>chp rs p
theorem qg {rs:List Rec}:∀ {p q:Nat},q∈chp rs p↔q<p∧∃ x,rs[q]?=some x∧x.cl=2
 | 0,q=>by simp [chp]
 | p+1,q=>by
   unfold chp;split
   ·rename_i x hx;split
    ·rename_i hc;rw [List.mem_cons,qg];constructor
     ·rintro (rfl | ⟨h1,h2⟩)
      ·exact ⟨by omega,x,hx,hc⟩
      ·exact ⟨by omega,h2⟩
     ·rintro ⟨h1,h2⟩;rcases Nat.lt_or_ge q p with h | h
      ·exact .inr ⟨h,h2⟩
      ·exact .inl (by omega)
    ·rename_i hc;rw [qg];constructor
     ·rintro ⟨h1,h2⟩;exact ⟨by omega,h2⟩
     ·rintro ⟨h1,y,h2,h3⟩;rcases Nat.lt_or_ge q p with h | h
      ·exact ⟨h,y,h2,h3⟩
      ·have:q=p:=(by omega);subst this;rw [hx] at h2;cases h2;exact absurd h3 hc
   ·rename_i hx;rw [qg];constructor
    ·rintro ⟨h1,h2⟩;exact ⟨by omega,h2⟩
    ·rintro ⟨h1,y,h2,h3⟩;rcases Nat.lt_or_ge q p with h | h
     ·exact ⟨h,y,h2,h3⟩
     ·have:q=p:=(by omega);subst this;rw [hx] at h2;cases h2
theorem QV {rs:List Rec}:∀ {p i j q q':Nat},(chp rs p)[i]?=some q→(chp rs p)[j]?=some q'→q'≤q→i≤j:=by
 intro p
 induction p with
 | zero=>intro i j q q' h;simp [chp] at h
 | succ p ih=>
   intro i j q q' h1 h2 hle;unfold chp at h1 h2;split at h1
   ·split at h1
    ·rename_i x hx hc;simp only [hx,hc,if_true] at h2;cases i with
     | zero=>omega
     | succ i=>
       cases j with
       | zero=>
         simp at h1 h2;have:=(qg.1 (List.mem_of_getElem? h1)).1;omega
       | succ j=>have:=ih (by simpa using h1) (by simpa using h2) hle;omega
    ·rename_i x hx hc;simp only [hx,hc,if_false] at h2;exact ih h1 h2 hle
   ·rename_i hx;simp only [hx] at h2;exact ih h1 h2 hle
def kAt (rs:List Rec) (q:Nat):Nat:=match rs[q]? with | some y=>y.k | none=>0
theorem wY {rs:List Rec}:∀ {r2 r1:List Rec},rs=r1++r2→backOk ((chp rs r1.length).map (kAt rs)) r2=true →
  ∀ (j:Nat) x,r2[j]?=some x→x.cl=0→match (chp rs (r1.length+j))[x.back]? with | some q=>iD (kAt rs q) x=true | none=>x.back=(chp rs (r1.length+j)).length
 | [],_,_,_,j,x,h,_=>by simp at h
 | z::r2,r1,he,h,j,x,hx,hc=>by
   simp only [backOk,Bool.and_eq_true] at h;obtain ⟨h1,h2⟩:=h;cases j with
   | zero=>
     simp at hx;subst hx;rw [hc] at h1;simp only [List.getElem?_map] at h1;rw [Nat.add_zero];cases hg:(chp rs r1.length)[z.back]? with
     | none=>rw [hg] at h1;simp at h1;simpa using h1
     | some q=>rw [hg] at h1;simpa using h1
   | succ j=>
     have hz:rs[r1.length]?=some z:=(by rw [he];simp);have h2':backOk ((chp rs (r1++[z]).length).map (kAt rs)) r2=true:=by
      rw [List.length_append,List.length_singleton];simp only [chp,hz];split at h2
      ·rename_i h3;rw [if_pos h3];simpa [kAt,hz] using h2
      ·rename_i h3;rw [if_neg h3];exact h2
     have:=wY (r2:=r2) (r1:=r1++[z]) (by rw [he];simp) h2' j x (by simpa using hx) hc;rw [List.length_append,List.length_singleton,Nat.add_assoc,Nat.add_comm 1 j] at this;exact this
theorem rW {d:Nat}:∀ {r:List Rec} {w0:Option Nat},zOk d w0 r=true→∀ (j:Nat) y,r[j]?=some y→d∈y.looks →
  (∃ w,w0=some w∧iD w y=true)∨∃ (w:Nat) (c:Rec),w≤j∧r[w]?=some c∧c.cl=2∧(w=j∨iD c.k y=true)
 | [],_,_,j,y,h,_=>by simp at h
 | z::r,none,h,j,y,hy,hd=>by
   simp only [zOk] at h;split at h
   ·rename_i hz;have hz:=beq_iff.1 hz;cases j with
    | zero=>simp at hy;exact .inr ⟨0,z,Nat.le_refl _,rfl,hz,.inl rfl⟩
    | succ j=>
      rcases rW h j y (by simpa using hy) hd with ⟨w,e,hw⟩ | ⟨w,c,h1,h2,h3,h4⟩
      ·cases e;exact .inr ⟨0,z,Nat.zero_le _,rfl,hz,.inr hw⟩
      ·exact .inr ⟨w+1,c,by omega,by simpa using h2,h3,h4.imp (by omega) id⟩
   ·simp only [Bool.and_eq_true,Bool.not_eq_true'] at h;cases j with
    | zero=>
      simp at hy;subst hy;have:=fF.2 hd;rw [h.1] at this;cases this
    | succ j=>
      rcases rW h.2 j y (by simpa using hy) hd with ⟨w,e,_⟩ | ⟨w,c,h1,h2,h3,h4⟩
      ·cases e
      ·exact .inr ⟨w+1,c,by omega,by simpa using h2,h3,h4.imp (by omega) id⟩
 | z::r,some w,h,j,y,hy,hd=>by
   simp only [zOk,Bool.and_eq_true,Bool.or_eq_true,Bool.not_eq_true'] at h;cases j with
   | zero=>
     simp at hy;subst hy;rcases h.1 with h1 | h1
     ·rw [fF.2 hd] at h1;cases h1
     ·exact .inl ⟨w,rfl,h1⟩
   | succ j=>
     rcases rW h.2 j y (by simpa using hy) hd with h1 | ⟨w',c,h1,h2,h3,h4⟩
     ·exact .inl h1
     ·exact .inr ⟨w'+1,c,by omega,by simpa using h2,h3,h4.imp (by omega) id⟩
section
variable (P:Program) (T:Nat→TE) (w0:World) (ng nt:Nat) (ops:List Oper) (ms:List Nat) (rs:List Rec) (E:Nat→Tr V) (H:Nat→Tr Obj×B) (hn:Nat→List (Tr Obj×B)) (b:Nat→Bool) (v:Nat→V)
structure Can:Prop where
 pair:Jg rF rs=true
 cl3:∀ (p:Nat) x,rs[p]?=some x→x.cl<3
 ones:iw rs=true
 back:∀ (p:Nat) x,rs[p]?=some x→x.cl=0→match (chp rs p)[x.back]? with | some q=>iD (kAt rs q) x=true | none=>x.back=(chp rs p).length
 cover:∀ k,k<ops.length→∃ (p:Nat) (x:Rec),rs[p]?=some x∧x.k=k
 mks:pR ops ms
 tf:∀ (p:Nat) x,rs[p]?=some x→ms[x.k]?=some x.mask∧x.looks=iQ ops x.o∧pK P T w0 ng ops x (E p) (E (p+1)) (H p) (H (p+1)) (hn p) (hn (p+1)) (b p) (v p)
 hd:∀ o∈ops,∀ d,o.dst=some d→d<nt
 hs:∀ p,p≤rs.length→hn p=(chp rs p).map (fun q=>H (q+1))++[H 0]
def Lk (listed:Array Bool) (k:Nat):Prop:=listed.getD k false=true
structure ZL (wS:World) (g:Gh) (hp:B→Option Obj) (n:Nat) (a:Act) (w:World) (p:Nat) (x:Rec) (bl:Nat):Prop where
 lo:wS.heap.size≤bl
 hi:bl<w.heap.size
 free:∀ id o,hp id=some o→(g id).b≠bl
 reg:∃ d ob ge ne,x.o.dst=some d∧w.heap[bl]?=some ob∧Ext ge g ne∧ne≤n ∧
  ∀ g1 hp1 w1,HR T w0 ng g1 hp1 (H p).2 w1→Sub (H p).1 hp1→Ext ge g1 ne→ne≤(H p).2.num→w1.heap[bl]?=some ob→(∀ id o,hp1 id=some o→(g1 id).b≠bl) →
    ∃ g' hp',Reg T w0 ng bl g1 hp1 (H p).1 (H p).2 w1 g' hp' (H (p+1)).1 (H (p+1)).2∧RV g' (H (p+1)).2.num (v p) (a.tmps.getD d Go.undef)
structure Inv (ds:List Deferred) (g0:Gh) (hp0:B→Option Obj) (wS:World) (listed:Array Bool) (a:Act) (w:World) (r:Nat) (g:Gh) (hp:B→Option Obj) (bl:Nat→Nat):Prop where
 rN:r≤rs.length
 size:listed.size=ops.length
 closed:Closed ops (Lk listed)
 low:∀ (p:Nat) x,p<r→rs[p]?=some x→Lk listed x.k
 high:∀ (p:Nat) x,r≤p→rs[p]?=some x→x.cl=2→¬ Lk listed x.k
 step:Step T w0 ng g0 hp0 (H 0).1 (H 0).2 wS g hp (H r).1 (H r).2 w
 defers:a.defers=ds
 oH:a.tmps.size=nt
 env:∀ p,p≤rs.length→(∀ x,rs[p]?=some x→¬ Lk listed x.k)→∀ t,(∀ x,rs[p]?=some x→t∈x.looks)→(∀ (j:Nat) y,j<p→rs[j]?=some y→y.o.dst=some t→Lk listed y.k∧(y.cl=1→j<r)) →
  ∀ u,(bOf t).get (E p)=some u→RV g (H r).2.num u (a.tmps.getD t Go.undef)
 pend:∀ (p:Nat) x,r≤p→rs[p]?=some x→x.cl=1→Lk listed x.k→ZL T w0 ng H v wS g hp (H r).2.num a w p x (bl p)
 dist:∀ (p p':Nat) x x',r≤p→r≤p'→rs[p]?=some x→rs[p']?=some x'→x.cl=1→x'.cl=1→Lk listed x.k→Lk listed x'.k→p≠p'→bl p≠bl p'
end
section
variable {ds:List Deferred} {P:Program} {T:Nat→TE} {w0:World} {ng nt:Nat} {ops:List Oper} {ms:List Nat} {rs:List Rec} {E:Nat→Tr V} {H:Nat→Tr Obj×B} {hn:Nat→List (Tr Obj×B)} {b:Nat→Bool} {v:Nat→V}
theorem BG {d d':Option Nat}:RF d d'=true↔∃ t,d=some t∧d'=some t:=by
 cases d with
 | none=>exact ⟨fun h=>(by cases h),fun ⟨t,h,_⟩=>(by cases h)⟩
 | some d=>
   cases d' with
   | none=>exact ⟨fun h=>(by cases h),fun ⟨t,_,h⟩=>(by cases h)⟩
   | some d'=>exact ⟨fun h=>⟨d,rfl,by rw [beq_iff.1 h]⟩,fun ⟨t,h,h'⟩=>by cases h;cases h';exact beq_iff.2 rfl⟩
theorem zM {d:Option Nat} {l:List Nat}:Qw d l=true↔∃ t,d=some t∧t∈l:=by
 cases d with
 | none=>simp [Qw]
 | some d=>simp [Qw,fF]
theorem Qi {x y:Rec} (h:rF x y=true):x.k≠y.k∧(iD x.k y=true∨((∀ t,x.o.dst=some t→t∉y.looks)∧(∀ t,x.o.dst=some t→y.o.dst≠some t)∧∀ t,y.o.dst=some t→t∉x.looks)) ∧
  (y.cl=2→iD x.k y=true)∧((x.cl=1∨y.cl=1)→∀ t,x.o.dst=some t→y.o.dst≠some t):=by
 unfold rF at h;simp only [Bool.and_eq_true,Bool.or_eq_true,Bool.not_eq_true'] at h;obtain ⟨⟨⟨h1,h2⟩,h3⟩,h4⟩:=h;have c1:x.k≠y.k:=fun e=>by rw [e,Nat.beq_refl] at h1;cases h1
 have c2:iD x.k y=true∨((∀ t,x.o.dst=some t→t∉y.looks)∧(∀ t,x.o.dst=some t→y.o.dst≠some t)∧∀ t,y.o.dst=some t→t∉x.looks):=by
  rcases h2 with h2 | ⟨⟨h5,h6⟩,h7⟩
  ·exact .inl h2
  ·refine .inr ⟨fun t ht hm=>?_,fun t ht he=>?_,fun t ht hm=>?_⟩
   ·rw [zM.2 ⟨t,ht,hm⟩] at h5;cases h5
   ·rw [BG.2 ⟨t,ht,he⟩] at h6;cases h6
   ·rw [zM.2 ⟨t,ht,hm⟩] at h7;cases h7
 have c3:y.cl=2→iD x.k y=true:=fun e=>by
  rcases h3 with h3 | h3
  ·rw [e] at h3;cases h3
  ·exact h3
 have c4:(x.cl=1∨y.cl=1)→∀ t,x.o.dst=some t→y.o.dst≠some t:=fun e t ht he=>by
  rcases h4 with ⟨h5,h6⟩ | h4
  ·rcases e with e | e
   ·rw [e] at h5;cases h5
   ·rw [e] at h6;cases h6
  ·rw [BG.2 ⟨t,ht,he⟩] at h4;cases h4
 exact ⟨c1,c2,c3,c4⟩
theorem Can.pr (hC:Can P T w0 ng nt ops ms rs E H hn b v) {i j:Nat} {x y:Rec} (hij:i<j) (hx:rs[i]?=some x) (hy:rs[j]?=some y) :
  x.k≠y.k∧(iD x.k y=true∨((∀ t,x.o.dst=some t→t∉y.looks)∧(∀ t,x.o.dst=some t→y.o.dst≠some t)∧∀ t,y.o.dst=some t→t∉x.looks)) ∧
  (y.cl=2→iD x.k y=true)∧((x.cl=1∨y.cl=1)→∀ t,x.o.dst=some t→y.o.dst≠some t):=Qi (D9 hC.pair i j x y hij hx hy)
theorem Can.keep (hC:Can P T w0 ng nt ops ms rs E H hn b v) {t i:Nat} (j:Nat):i≤j→j≤rs.length→(∀ (q:Nat) y,i≤q→q<j→rs[q]?=some y→y.o.dst≠some t)→(bOf t).get (E j)=(bOf t).get (E i):=by
 induction j with
 | zero=>
   intro h1 _ _;have:i=0:=(by omega);subst this;rfl
 | succ j ih=>
   intro h1 h2 h3;rcases Nat.lt_or_ge j i with h | h
   ·have:i=j+1:=(by omega);subst this;rfl
   ·have hj:j<rs.length:=(by omega);have hx:rs[j]?=some rs[j]:=List.getElem?_eq_getElem hj;obtain ⟨_,_,hf⟩:=hC.tf j _ hx;rw [hf.en,← ih h (by omega) fun q y hq hq'=>h3 q y hq (by omega)];have hne:=h3 j _ h (by omega) hx;unfold qN;cases hd:rs[j].o.dst with
    | none=>rfl
    | some d=>
      simp only;rw [B.get_put,if_neg];intro e;have:=lF e;subst this;exact hne hd
theorem Ext.sub {g g':Gh} {n m:Nat} (h:Ext g g' n) (hm:m≤n):Ext g g' m:=fun id hi=>h id (Nat.lt_of_lt_of_le hi hm)
theorem Step.reg {g0 g g':Gh} {hp0 hp hp':B→Option Obj} {t0 t t':Tr Obj} {nx0 nx nx':B} {wS w:World} {bl:Nat} (h:Step T w0 ng g0 hp0 t0 nx0 wS g hp t nx w) (hr:Reg T w0 ng bl g hp t nx w g' hp' t' nx') (hb:wS.heap.size≤bl) :
  Step T w0 ng g0 hp0 t0 nx0 wS g' hp' t' nx' w:=by
 refine ⟨h.ext.trans hr.ext h.le,Nat.le_trans h.le hr.le,hr.hr,hr.sub,fun id hi hn=>(hr.fr id (Nat.lt_of_lt_of_le hi h.le) (h.dm id hi hn)).trans (h.fr id hi hn),
  fun id hi hn=>hr.dm id (Nat.lt_of_lt_of_le hi h.le) (h.dm id hi hn),h.sz,h.dr,h.un,fun id o h1 h2=>?_,fun id o h1 h2=>?_⟩
 ·rcases hr.pl id o h1 with ⟨h3,h4⟩ | h3
  ·rw [h4];exact h.pl id o h3 h2
  ·exact .inl (by rw [h3];exact hb)
 ·rcases hr.pl2 id o h1 with ⟨h3,h4⟩ | ⟨_,h3⟩
  ·rw [h4];exact h.pl2 id o h3 h2
  ·exact .inl (by rw [h3];exact hb)
theorem Inv.advance (hC:Can P T w0 ng nt ops ms rs E H hn b v) {g0:Gh} {hp0:B→Option Obj} {wS:World} {listed:Array Bool} {a:Act} {w:World} {r:Nat} {g:Gh} {hp:B→Option Obj} {bl:Nat→Nat}
  (hI:Inv T w0 ng nt ops rs E H v ds g0 hp0 wS listed a w r g hp bl) {x:Rec} (hx:rs[r]?=some x) (hnc:x.cl≠2) (hl:Lk listed x.k) :
  ∃ g' hp',Inv T w0 ng nt ops rs E H v ds g0 hp0 wS listed a w (r+1) g' hp' bl∧(∀ id o,hp' id=some o→(hp id=some o∧g' id=g id)∨(g' id).b=bl r):=by
 have hrN:r<rs.length:=(List.getElem?_eq_some_iff.1 hx).1;obtain ⟨hmk,hlk,hf⟩:=hC.tf r x hx;have low':∀ (p:Nat) y,p<r+1→rs[p]?=some y→Lk listed y.k:=fun p y hp hy=>by
  rcases Nat.lt_or_ge p r with h | h
  ·exact hI.low p y h hy
  ·have:p=r:=(by omega);subst this;rw [hx] at hy;cases hy;exact hl
 by_cases hz:x.cl=1
 ·obtain ⟨hlo,hhi,hfree,d,ob,ge,ne,hd,hob,hge,hne,hreg⟩:=hI.pend r x (Nat.le_refl _) hx hz hl;obtain ⟨g',hp',hR,hv⟩:=hreg g hp w hI.step.hr hI.step.sub hge hne hob hfree;have hids:∀ id o,hp' id=some o→(hp id=some o∧g' id=g id)∨(g' id).b=bl r:=fun id o h=>(hR.pl2 id o h).imp (fun q=>q) And.right
  refine ⟨g',hp',⟨by omega,hI.size,hI.closed,low',fun p y hp hy hc=>hI.high p y (by omega) hy hc,hI.step.reg hR hlo,hI.defers,hI.oH,fun p hp0 hu t ht hw u hg=>?_,fun p y hp1 hy hc hk=>?_,fun p p' y y' h1 h2=>hI.dist p p' y y' (by omega) (by omega)⟩,hids⟩
  ·by_cases hcase:r<p∧t=d
   ·obtain ⟨hrp,rfl⟩:=hcase;have hkeep:=hC.keep (t:=t) (i:=r+1) p (by omega) hp0 fun q y hq1 hq2 hy he=>(hC.pr (show r<q by omega) hx hy).2.2.2 (.inl hz) t hd he
    rw [hkeep,hf.en] at hg;simp only [hd,qN,B.bU] at hg;cases hg;exact hv
   ·refine (hI.env p hp0 hu t ht (fun j y hj hy hdy=>⟨(hw j y hj hy hdy).1,fun h1=>?_⟩) u hg).mono hR.ext hR.le;have:=(hw j y hj hy hdy).2 h1;rcases Nat.lt_or_ge j r with h | h
    ·exact h
    ·have:j=r:=(by omega);subst this;rw [hx] at hy;cases hy;rw [hd] at hdy;cases hdy;exact absurd ⟨hj,rfl⟩ hcase
  ·obtain ⟨plo,phi,pfree,pd,pob,pge,pne,q1,q2,q3,q4,q5⟩:=hI.pend p y (by omega) hy hc hk;refine ⟨plo,phi,fun id o h=>?_,pd,pob,pge,pne,q1,q2,q3.trans (hR.ext.sub q4) (Nat.le_refl _),Nat.le_trans q4 hR.le,q5⟩;rcases hids id o h with ⟨h1,h2⟩ | h1
   ·rw [h2];exact pfree id o h1
   ·rw [h1];exact hI.dist r p x y (Nat.le_refl _) (by omega) hx hy hz hc hl hk (by omega)
 ·have hH:H (r+1)=H r:=by
   cases hb:b r with
   | false=>exact (hf.no hb).2
   | true=>
     have:x.cl=0:=(by have:=hC.cl3 r x hx;omega);exact (hf.q hb this).1
  refine ⟨g,hp,⟨by omega,hI.size,hI.closed,low',fun p y hp hy hc=>hI.high p y (by omega) hy hc,by rw [hH];exact hI.step,hI.defers,hI.oH,fun p hp hu t ht hw u hg=>?_,fun p y hp hy hc hk=>by rw [hH];exact hI.pend p y (by omega) hy hc hk,fun p p' y y' h1 h2=>hI.dist p p' y y' (by omega) (by omega)⟩,fun id o h => .inl ⟨h,rfl⟩⟩;rw [hH];refine hI.env p hp hu t ht (fun j y hj hy hd=>⟨(hw j y hj hy hd).1,fun h1=>?_⟩) u hg;have:=(hw j y hj hy hd).2 h1;rcases Nat.lt_or_ge j r with h | h
  ·exact h
  ·have:j=r:=(by omega);subst this;rw [hx] at hy;cases hy;exact absurd h1 hz
theorem kK {listed:Array Bool} {k j:Nat} (hk:k<listed.size):Lk (listed.setIfInBounds k true) j↔j=k∨Lk listed j:=by
 unfold Lk;by_cases h:k=j
 ·subst h;simp [hk]
 ·simp [Array.getElem?_setIfInBounds_ne h,Ne.symm h]
theorem get_put {a:Act} {nt:Nat} (hs:a.tmps.size=nt) {dst:Option Tmp} (hd:∀ d,dst=some d→d<nt) (u:Value) (t:Nat):(dst=some t→(a.put dst u).tmps.getD t Go.undef=u)∧(dst≠some t→(a.put dst u).tmps.getD t Go.undef=a.tmps.getD t Go.undef):=by
 cases dst with
 | none=>exact ⟨fun h=>(by cases h),fun _=>rfl⟩
 | some d=>
   refine ⟨fun h=>?_,fun h=>?_⟩
   ·cases h;simp [Act.put,hs,hd t rfl]
   ·have hne:d≠t:=fun e=>h (by rw [e])
    simp [Act.put,Array.getElem?_setIfInBounds_ne hne]
theorem YC (hC:Can P T w0 ng nt ops ms rs E H hn b v) {listed:Array Bool} {a:Act} {r r':Nat} {g:Gh} {n:Nat}
  (henv:∀ p,p≤rs.length→(∀ x,rs[p]?=some x→¬ Lk listed x.k)→∀ t,(∀ x,rs[p]?=some x→t∈x.looks)→(∀ (j:Nat) y,j<p→rs[j]?=some y→y.o.dst=some t→Lk listed y.k∧(y.cl=1→j<r))→∀ u,(bOf t).get (E p)=some u→RV g n u (a.tmps.getD t Go.undef))
  (hsz:a.tmps.size=nt) {pm:Nat} {x:Rec} (hx:rs[pm]?=some x) (hk:x.k<listed.size) (hun:¬ Lk listed x.k) (hmask:∀ i,x.mask.testBit i=true→Lk listed i) (hlk:∀ (j:Nat) y,rs[j]?=some y→Lk listed y.k→∀ i,y.mask.testBit i=true→Lk listed i)
  (hd:∀ d,x.o.dst=some d→d<nt) {u:Value} (hu:RV g n (v pm) u) (hr':∀ (j:Nat) y,rs[j]?=some y→y.cl=1→j<r'→j<r) :
  ∀ p,p≤rs.length→(∀ y,rs[p]?=some y→¬ Lk (listed.setIfInBounds x.k true) y.k)→∀ t,(∀ y,rs[p]?=some y→t∈y.looks)→(∀ (j:Nat) y,j<p→rs[j]?=some y→y.o.dst=some t→Lk (listed.setIfInBounds x.k true) y.k∧(y.cl=1→j<r')) →
    ∀ u',(bOf t).get (E p)=some u'→RV g n u' ((a.put x.o.dst u).tmps.getD t Go.undef):=by
 intro p hp hpu t ht hw u' hg;have hpmN:pm<rs.length:=(List.getElem?_eq_some_iff.1 hx).1;obtain ⟨_,_,hf⟩:=hC.tf pm x hx;have hpu':∀ y,rs[p]?=some y→¬ Lk listed y.k:=fun y hy h=>hpu y hy ((kK hk).2 (.inr h))
 have hppm:p≠pm:=fun e=>by subst e;exact hpu x hx ((kK hk).2 (.inl rfl))
 by_cases hdt:x.o.dst=some t
 ·rw [(get_put hsz hd u t).1 hdt];rcases Nat.lt_or_ge pm p with hlt | hge
  ·
   have hkeep:=hC.keep (t:=t) (i:=pm+1) p (by omega) hp fun q y hq1 hq2 hy he=>by
    have hpr:=hC.pr (show pm<q by omega) hx hy;have hyl:Lk listed y.k:=by
     rcases (kK hk).1 (hw q y hq2 hy he).1 with h | h
     ·exact absurd h.symm hpr.1
     ·exact h
    rcases hpr.2.1 with h | ⟨_,h,_⟩
    ·exact hun (hlk q y hy hyl _ h)
    ·exact h t hdt he
   rw [hkeep,hf.en] at hg;simp only [hdt,qN,B.bU] at hg;cases hg;exact hu
  ·have hlt:p<pm:=(by omega);have hp2:rs[p]?=some rs[p]:=List.getElem?_eq_getElem (by omega);have hpr:=hC.pr hlt hp2 hx;rcases hpr.2.1 with h | ⟨_,_,h⟩
   ·exact absurd (hmask _ h) (hpu' _ hp2)
   ·exact absurd (ht _ hp2) (h t hdt)
 ·rw [(get_put hsz hd u t).2 hdt];refine henv p hp hpu' t ht (fun j y hj hy hdy=>⟨?_,fun h1=>hr' j y hy h1 ((hw j y hj hy hdy).2 h1)⟩) u' hg;rcases (kK hk).1 (hw j y hj hy hdy).1 with h | h
  ·have:j=pm:=by
    rcases Nat.lt_trichotomy j pm with h1 | h1 | h1
    ·exact absurd h (hC.pr h1 hy hx).1
    ·exact h1
    ·exact absurd h.symm (hC.pr h1 hx hy).1
   subst this;rw [hx] at hy;cases hy;exact absurd hdy hdt
  ·exact h
theorem yR (hC:Can P T w0 ng nt ops ms rs E H hn b v) {listed:Array Bool} (hsz:listed.size=ops.length) (hcl:Closed ops (Lk listed)) {k:Nat} (h:k∈Region.ready .any ops.toArray listed) :
  ∃ (p:Nat) (x:Rec),rs[p]?=some x∧x.k=k∧¬ Lk listed k∧k<listed.size∧ops.toArray[k]?=some x.o∧(∀ i,x.mask.testBit i=true→Lk listed i)∧Closed ops (Lk (listed.setIfInBounds k true)):=by
 obtain ⟨h1,o,h2,h3⟩:=mem_ready.1 h;have h2':ops[k]?=some o:=by simpa using h2
 have hk:k<listed.size:=by rw [hsz];exact (List.getElem?_eq_some_iff.1 h2').1
 obtain ⟨p,x,hx,hxk⟩:=hC.cover k (by omega);obtain ⟨hmk,_,hf⟩:=hC.tf p x hx;have hat:=hf.at_;rw [hxk] at hat hmk;rw [h2'] at hat;cases hat;have hun:¬ Lk listed k:=fun hl=>by
  unfold Lk at hl;simp [hk] at h1 hl;rw [hl] at h1;cases h1
 refine ⟨p,x,hx,hxk,hun,hk,h2,CG hC.mks hcl h2' hmk h3,fun j o' hj ho' e he hb=>?_⟩;rcases (kK hk).1 hj with rfl | hj
 ·rw [h2'] at ho';cases ho';exact (kK hk).2 (.inr (h3 e he hb))
 ·exact (kK hk).2 (.inr (hcl j o' hj ho' e he hb))
theorem Jb (hC:Can P T w0 ng nt ops ms rs E H hn b v) {listed:Array Bool} (hcl:Closed ops (Lk listed)) (j:Nat) (y:Rec) (hy:rs[j]?=some y) (hl:Lk listed y.k):∀ i,y.mask.testBit i=true→Lk listed i:=by
 obtain ⟨hmk,_,hf⟩:=hC.tf j y hy;exact CG hC.mks hcl hf.at_ hmk fun e he hb=>hcl y.k y.o hl hf.at_ e he hb
def Start (rs:List Rec) (r:Nat):Prop:=r=0∨∃ q x,r=q+1∧rs[q]?=some x∧x.cl=2
theorem Tf (hC:Can P T w0 ng nt ops ms rs E H hn b v) {listed:Array Bool} {r p:Nat} {x:Rec} (hst:Start rs r) (hrp:r≤p) (hhigh:∀ (p:Nat) x,r≤p→rs[p]?=some x→x.cl=2→¬ Lk listed x.k) (hx:rs[p]?=some x) (hc:x.cl=0) (hb:b p=true)
  (hmask:∀ i,x.mask.testBit i=true→Lk listed i):QT P T w0 ng x.o ((bJ x.o.op).map (opV ng (E p))) (H r).1 (H r).2 (v p):=by
 have hp:p<rs.length:=(List.getElem?_eq_some_iff.1 hx).1;obtain ⟨_,_,hf⟩:=hC.tf p x hx;obtain ⟨_,hq⟩:=hf.q hb hc;have hback:=hC.back p x hx hc;have hs:=hC.hs p (by omega);have hlow:∀ q',(chp rs p)[x.back]?=some q'→q'<r:=fun q' h=>by
  rw [h] at hback;obtain ⟨_,y,hy,hyc⟩:=qg.1 (List.mem_of_getElem? h);have hl:=hmask _ hback;unfold kAt at hl;rw [hy] at hl;rcases Nat.lt_or_ge q' r with h' | h'
  ·exact h'
  ·exact absurd hl (hhigh q' y h' hy hyc)
 have fin:∀ i,i≤x.back→(hn p)[i]?=some (H r)→QT P T w0 ng x.o ((bJ x.o.op).map (opV ng (E p))) (H r).1 (H r).2 (v p):=fun i hi he=>by
  obtain ⟨y,h1,h2⟩:=hq i hi;rw [he] at h1;cases h1;exact h2
 rcases hst with rfl | ⟨q,y,rfl,hy,hyc⟩
 ·have hnone:(chp rs p)[x.back]?=none:=by
   cases h:(chp rs p)[x.back]? with
   | none=>rfl
   | some q'=>have:=hlow q' h;omega
  rw [hnone] at hback;refine fin (chp rs p).length (by simp only at hback;omega) ?_;rw [hs,List.getElem?_append_right (by simp)];simp
 ·obtain ⟨i,hi⟩:=List.getElem?_of_mem (qg.2 ⟨show q<p by omega,y,hy,hyc⟩);have hil:i<(chp rs p).length:=(List.getElem?_eq_some_iff.1 hi).1;refine fin i ?_ ?_
  ·cases h:(chp rs p)[x.back]? with
   | none=>rw [h] at hback;simp only at hback;omega
   | some q'=>exact QV hi h (by have:=hlow q' h;omega)
  ·rw [hs,List.getElem?_append_left (by simpa using hil),List.getElem?_map,hi];rfl
theorem Inv.advances (hC:Can P T w0 ng nt ops ms rs E H hn b v) {g0:Gh} {hp0:B→Option Obj} {wS:World} {listed:Array Bool} {a:Act} {w:World} {q:Nat}:∀ (m:Nat) {r:Nat} {g:Gh} {hp:B→Option Obj} {bl:Nat→Nat},
  Inv T w0 ng nt ops rs E H v ds g0 hp0 wS listed a w r g hp bl→r+m=q→(∀ (p:Nat) x,r≤p→p<q→rs[p]?=some x→x.cl≠2∧Lk listed x.k)→q≤rs.length→∃ g' hp',Inv T w0 ng nt ops rs E H v ds g0 hp0 wS listed a w q g' hp' bl
 | 0,r,g,hp,bl,hI,hq,_,_=>by have:r=q:=by omega
                             subst this;exact ⟨g,hp,hI⟩
 | m+1,r,g,hp,bl,hI,hq,hall,hN=>by
   have hr:r<rs.length:=(by omega);obtain ⟨h1,h2⟩:=hall r _ (Nat.le_refl _) (by omega) (List.getElem?_eq_getElem hr);obtain ⟨g1,hp1,hI1,_⟩:=hI.advance hC (List.getElem?_eq_getElem hr) h1 h2;exact Inv.advances hC m hI1 (by omega) (fun p x hp hpq hx=>hall p x (by omega) hpq hx) hN
theorem ZL.keep {wS:World} {g g':Gh} {hp hp':B→Option Obj} {n n':Nat} {a a':Act} {w w':World} {p:Nat} {x:Rec} {bl:Nat} (h:ZL T w0 ng H v wS g hp n a w p x bl) (hsz:w.heap.size≤w'.heap.size) (hw:w'.heap[bl]?=w.heap[bl]?)
  (hfree:∀ id o,hp' id=some o→(g' id).b≠bl) (he:Ext g g' n) (hn:n≤n') (ha:∀ d,x.o.dst=some d→a'.tmps.getD d Go.undef=a.tmps.getD d Go.undef):ZL T w0 ng H v wS g' hp' n' a' w' p x bl:=by
 obtain ⟨h1,h2,h3,d,ob,ge,ne,q1,q2,q3,q4,q5⟩:=h;exact ⟨h1,Nat.lt_of_lt_of_le h2 hsz,hfree,d,ob,ge,ne,q1,by rw [hw];exact q2,q3.trans (he.sub q4) (Nat.le_refl _),Nat.le_trans q4 hn,by rw [ha d q1];exact q5⟩
theorem Step.apart {g g':Gh} {hp hp':B→Option Obj} {t t':Tr Obj} {nx nx':B} {w w':World} (h:Step T w0 ng g hp t nx w g' hp' t' nx' w') (hs:Sub t hp) {bl:Nat} (hb:bl<w.heap.size) (hf:∀ id o,hp id=some o→(g id).b≠bl) :
  w'.heap[bl]?=w.heap[bl]?∧∀ id o,hp' id=some o→(g' id).b≠bl:=by
 refine ⟨h.un bl hb fun id o h1 _=>hf id o (hs id o h1),fun id o ho e=>?_⟩;rcases Nat.lt_or_ge id.num nx.num with hi | hi
 ·have hg:=h.ext id hi;cases ht:B.get id t with
  | none=>
    have:=h.fr id hi ht;rw [ho] at this;exact hf id o this.symm (by rw [← hg];exact e)
  | some o'=>exact hf id o' (hs id o' ht) (by rw [← hg];exact e)
 ·rcases h.pl2 id o ho hi with h1 | ⟨id0,o0,h1,h2⟩
  ·omega
  ·exact hf id0 o0 (hs id0 o0 h1) (h2.trans e)
noncomputable def sN (env:Tr V):List Nat→Tr V
 | [] => .lf
 | t::l=>(bOf t).put (sN env l) ((bOf t).get env)
theorem vW (env:Tr V):∀ (l:List Nat) (t:Nat),(bOf t).get (sN env l)=if t∈l then (bOf t).get env else none
 | [],t=>by simp [sN,B.dO]
 | s::l,t=>by
   rw [sN,B.get_put,vW env l t];by_cases h:t=s
   ·subst h;simp
   ·rw [if_neg (fun e=>h (lF e))];simp [h]
theorem CB {env:Tr V} {l:List Nat} {x:Operand} (h:∀ t,x = .tmp t→t∈l):opV ng (sN env l) x=opV ng env x:=by
 cases x with
 | tmp t=>simp only [opV,vW,if_pos (h t rfl)]
 | _=>rfl
theorem zk {env:Tr V} {l:List Nat}:∀ {xs:List Operand},(∀ t,Operand.tmp t∈xs→t∈l)→xs.map (opV ng (sN env l))=xs.map (opV ng env)
 | [],_=>rfl
 | x::xs,h=>by rw [List.map_cons,List.map_cons,CB (fun t e=>h t (by simp [e])),zk fun t ht=>h t (by simp [ht])]
theorem Gy {env:Tr V} {o:Oper} {b:Bool} (h:Wd ops ng env o b):Wd ops ng (sN env (iQ ops o)) o b:=by
 unfold Wd at h ⊢;cases hg:o.guard with
 | none=>rw [hg] at h;exact h
 | some p=>
   obtain ⟨j,want⟩:=p;rw [hg] at h;obtain ⟨oj,d,h1,h2,h3⟩:=h;refine ⟨oj,d,h1,h2,?_⟩;rw [CB (fun t e=>by cases e;simp [iQ,ahA,hg,h1,h2])];exact h3
theorem wL {env:Tr V} {o:Oper}:(bJ o.op).map (opV ng (sN env (iQ ops o)))=(bJ o.op).map (opV ng env):=
 zk fun t ht=>by simp [iQ,rG ht]
end
section
variable {ds:List Deferred} {P:Program} {T:Nat→TE} {w0:World} {ng nt:Nat} {ops:List Oper} {ms:List Nat} {rs:List Rec} {E:Nat→Tr V} {H:Nat→Tr Obj×B} {hn:Nat→List (Tr Obj×B)} {b:Nat→Bool} {v:Nat→V}
theorem Inv.ar (hC:Can P T w0 ng nt ops ms rs E H hn b v) {g0:Gh} {hp0:B→Option Obj} {wS:World} {listed:Array Bool} {a:Act} {w:World} {r:Nat} {g:Gh} {hp:B→Option Obj} {bl:Nat→Nat}
  (hI:Inv T w0 ng nt ops rs E H v ds g0 hp0 wS listed a w r g hp bl) {p:Nat} {x:Rec} (hx:rs[p]?=some x) (hun:¬ Lk listed x.k) (hmask:∀ i,x.mask.testBit i=true→Lk listed i)
  (hlz:∀ (j:Nat) y t,j<p→rs[j]?=some y→y.cl=1→y.o.dst=some t→t∈x.looks→j<r):AR ds g (H r).2.num nt (sN (E p) (iQ ops x.o)) a:=by
 have hp:p<rs.length:=(List.getElem?_eq_some_iff.1 hx).1;obtain ⟨_,hlk,hf⟩:=hC.tf p x hx;refine ⟨hI.defers,hI.oH,fun t u hg=>?_⟩;rw [vW] at hg;split at hg
 ·rename_i ht;rw [← hlk] at ht;refine hI.env p (by omega) (fun y hy=>by rw [hx] at hy;cases hy;exact hun) t (fun y hy=>by rw [hx] at hy;cases hy;exact ht) (fun j y hj hy hd=>⟨?_,fun hc=>hlz j y t hj hy hc hd ht⟩) u hg;rcases (hC.pr hj hy hx).2.1 with h | ⟨h,_,_⟩
  ·exact hmask _ h
  ·exact absurd ht (h t hd)
 ·cases hg
theorem Can.lz (hC:Can P T w0 ng nt ops ms rs E H hn b v) {j p t:Nat} {x y:Rec} (hj:j<p) (hy:rs[j]?=some y) (hx:rs[p]?=some x) (hc:y.cl=1) (hd:y.o.dst=some t) (ht:t∈x.looks) :
  ∃ q c,j<q∧q≤p∧rs[q]?=some c∧c.cl=2∧(q=p∨iD c.k x=true):=by
 have key:∀ (l:List Rec),iw l=true→∀ (i:Nat) z,l[i]?=some z→zn z (l.drop (i+1))=true:=by
  intro l
  induction l with
  | nil=>intro _ i z h;simp at h
  | cons z0 l ih=>
    intro h i z hz;simp only [iw,Bool.and_eq_true] at h;cases i with
    | zero=>simp at hz;subst hz;simpa using h.1
    | succ i=>simpa using ih h.2 i z (by simpa using hz)
 have h1:=key rs hC.ones j y hy;unfold zn at h1;rw [hc] at h1;simp only [hd,Bool.and_eq_true] at h1;obtain ⟨_,h2,_⟩:=h1;have hx':(rs.drop (j+1))[p-(j+1)]?=some x:=by rw [List.getElem?_drop,show j+1+(p-(j+1))=p by omega];exact hx
 rcases rW h2 (p-(j+1)) x hx' ht with ⟨w,e,_⟩ | ⟨w,c,h3,h4,h5,h6⟩
 ·cases e
 ·rw [List.getElem?_drop] at h4;exact ⟨j+1+w,c,by omega,by omega,h4,h5,h6.imp (by omega) id⟩
theorem Can.one (hC:Can P T w0 ng nt ops ms rs E H hn b v) {p:Nat} {x:Rec} (hx:rs[p]?=some x):(x.cl=0→isQ x.o.op=true)∧(x.cl=1→x.o.guard=none∧∃ d,x.o.dst=some d):=by
 have key:∀ (l:List Rec),iw l=true→∀ (i:Nat) z,l[i]?=some z→zn z (l.drop (i+1))=true:=by
  intro l
  induction l with
  | nil=>intro _ i z h;simp at h
  | cons z0 l ih=>
    intro h i z hz;simp only [iw,Bool.and_eq_true] at h;cases i with
    | zero=>simp at hz;subst hz;simpa using h.1
    | succ i=>simpa using ih h.2 i z (by simpa using hz)
 have h1:=key rs hC.ones p x hx;unfold zn at h1;refine ⟨fun hc=>by rw [hc] at h1;exact h1,fun hc=>?_⟩;rw [hc] at h1;cases hd:x.o.dst with
 | none=>simp [hd] at h1
 | some d=>
   simp only [Bool.and_eq_true] at h1;exact ⟨by simpa using h1.1.2,d,rfl⟩
theorem wF {listed:Array Bool} {k j:Nat} (h:Lk listed j):Lk (listed.setIfInBounds k true) j:=by
 unfold Lk at *;exact getD_set_true h
theorem Inv.put (hC:Can P T w0 ng nt ops ms rs E H hn b v) {g0:Gh} {hp0:B→Option Obj} {wS:World} {listed:Array Bool} {a:Act} {w:World} {r:Nat} {g:Gh} {hp:B→Option Obj} {bl:Nat→Nat}
  (hI:Inv T w0 ng nt ops rs E H v ds g0 hp0 wS listed a w r g hp bl) {p:Nat} {x:Rec} (hx:rs[p]?=some x) (hk:x.k<listed.size) (hun:¬ Lk listed x.k) (hmask:∀ i,x.mask.testBit i=true→Lk listed i) (hcl:Closed ops (Lk (listed.setIfInBounds x.k true)))
  (hnz:x.cl≠1) {r':Nat} {g':Gh} {hp':B→Option Obj} {w':World} (hr:(x.cl=2∧r=p∧r'=p+1)∨(x.cl≠2∧r'=r)) (st:Step T w0 ng g hp (H r).1 (H r).2 w g' hp' (H r').1 (H r').2 w') {u:Value} (hu:RV g' (H r').2.num (v p) u) :
  Inv T w0 ng nt ops rs E H v ds g0 hp0 wS (listed.setIfInBounds x.k true) (a.put x.o.dst u) w' r' g' hp' bl:=by
 have hpN:p<rs.length:=(List.getElem?_eq_some_iff.1 hx).1;obtain ⟨hmk,hlk,hf⟩:=hC.tf p x hx;have hd:∀ d,x.o.dst=some d→d<nt:=hC.hd x.o (List.mem_of_getElem? hf.at_);have hrp:r≤p:=by
  rcases Nat.lt_or_ge p r with h | h
  ·exact absurd (hI.low p x h hx) hun
  ·exact h
 have same:∀ (j:Nat) y,rs[j]?=some y→y.k=x.k→j=p:=fun j y hy e=>by
  rcases Nat.lt_trichotomy j p with h1 | h1 | h1
  ·exact absurd e (hC.pr h1 hy hx).1
  ·exact h1
  ·exact absurd e.symm (hC.pr h1 hx hy).1
 have old:∀ (j:Nat) y,rs[j]?=some y→j≠p→Lk (listed.setIfInBounds x.k true) y.k→Lk listed y.k:=fun j y hy hj h=>by
  rcases (kK hk).1 h with h | h
  ·exact absurd (same j y hy h) hj
  ·exact h
 have hrr:r≤r':=by rcases hr with ⟨_,h1,h2⟩ | ⟨_,h1⟩<;>omega
 have hr'N:r'≤rs.length:=by
  have:=hI.rN;rcases hr with ⟨_,h1,h2⟩ | ⟨_,h1⟩<;>omega
 have between:∀ (j:Nat) y,rs[j]?=some y→r≤j→j<r'→j=p∧x.cl=2:=fun j y hy h1 h2=>by
  rcases hr with ⟨h0,h3,h4⟩ | ⟨_,h3⟩
  ·exact ⟨by omega,h0⟩
  ·omega
 refine ⟨hr'N,by simpa using hI.size,hcl,fun j y hj hy=>?_,fun j y hj hy hc h=>?_,hI.step.trans st,?_,?_,?_,fun j y hj hy hc hl=>?_,fun j j' y y' h1 h2 h3 h4 h5 h6 h7 h8 h9=>?_⟩
 ·rcases Nat.lt_or_ge j r with h | h
  ·exact wF (hI.low j y h hy)
  ·obtain ⟨rfl,_⟩:=between j y hy h hj;rw [hx] at hy;cases hy;exact (kK hk).2 (.inl rfl)
 ·by_cases e:j=p
  ·subst e;rw [hx] at hy;cases hy;rcases hr with ⟨_,h1,h2⟩ | ⟨h0,_⟩
   ·omega
   ·exact h0 hc
  ·exact hI.high j y (by omega) hy hc (old j y hy e h)
 ·simpa [Act.put] using (show (a.put x.o.dst u).defers=ds by cases x.o.dst<;>simpa [Act.put] using hI.defers)
 ·cases x.o.dst<;>simpa [Act.put] using hI.oH
 ·refine YC hC (r:=r) (fun p hp hu t ht hw u hg=>(hI.env p hp hu t ht hw u hg).mono st.ext st.le) hI.oH hx hk hun hmask (fun j y hy hl=>Jb hC hI.closed j y hy hl) hd hu fun j y hy hc hj=>?_
  rcases Nat.lt_or_ge j r with h | h
  ·exact h
  ·obtain ⟨rfl,h2⟩:=between j y hy h hj;rw [hx] at hy;cases hy;omega
 ·have hjp:j≠p:=fun e=>by subst e;rw [hx] at hy;cases hy;exact hnz hc
  have hpd:=hI.pend j y (by omega) hy hc (old j y hy hjp hl);obtain ⟨q1,q2⟩:=st.apart hI.step.sub hpd.hi hpd.free;refine hpd.keep st.sz q1 q2 st.ext st.le fun d hdy=>(get_put hI.oH hd u d).2 fun e=>?_
  rcases Nat.lt_trichotomy j p with h1 | h1 | h1
  ·exact (hC.pr h1 hy hx).2.2.2 (.inl hc) d hdy e
  ·exact hjp h1
  ·exact (hC.pr h1 hx hy).2.2.2 (.inr hc) d e hdy
 ·have hjp:j≠p:=fun e=>by subst e;rw [hx] at h3;cases h3;exact hnz h5
  have hjp':j'≠p:=fun e=>by subst e;rw [hx] at h4;cases h4;exact hnz h6
  exact hI.dist j j' y y' (by omega) (by omega) h3 h4 h5 h6 (old j y h3 hjp h7) (old j' y' h4 hjp' h8) h9
theorem Inv.lazy (hC:Can P T w0 ng nt ops ms rs E H hn b v) {g0:Gh} {hp0:B→Option Obj} {wS:World} {listed:Array Bool} {a:Act} {w:World} {r:Nat} {g:Gh} {hp:B→Option Obj} {bl:Nat→Nat}
  (hI:Inv T w0 ng nt ops rs E H v ds g0 hp0 wS listed a w r g hp bl) {p:Nat} {x:Rec} (hx:rs[p]?=some x) (hk:x.k<listed.size) (hun:¬ Lk listed x.k) (hmask:∀ i,x.mask.testBit i=true→Lk listed i) (hcl:Closed ops (Lk (listed.setIfInBounds x.k true)))
  (hz:x.cl=1) {u:Value} {ob:Go.Obj}
  (hreg:∀ g1 hp1 w1,HR T w0 ng g1 hp1 (H p).2 w1→Sub (H p).1 hp1→Ext g g1 (H r).2.num→(H r).2.num≤(H p).2.num→w1.heap[w.heap.size]?=some ob→w0.heap.size≤w.heap.size→(∀ id o,hp1 id=some o→(g1 id).b≠w.heap.size) →
   ∃ g' hp',Reg T w0 ng w.heap.size g1 hp1 (H p).1 (H p).2 w1 g' hp' (H (p+1)).1 (H (p+1)).2∧RV g' (H (p+1)).2.num (v p) u) :
  Inv T w0 ng nt ops rs E H v ds g0 hp0 wS (listed.setIfInBounds x.k true) (a.put x.o.dst u) (w.alloc ob) r g hp (fun q=>if q=p then w.heap.size else bl q):=by
 have hpN:p<rs.length:=(List.getElem?_eq_some_iff.1 hx).1;obtain ⟨hmk,hlk,hf⟩:=hC.tf p x hx;have hd:∀ d,x.o.dst=some d→d<nt:=hC.hd x.o (List.mem_of_getElem? hf.at_);obtain ⟨_,d,hdx⟩:=(hC.one hx).2 hz;have hrp:r≤p:=by
  rcases Nat.lt_or_ge p r with h | h
  ·exact absurd (hI.low p x h hx) hun
  ·exact h
 have same:∀ (j:Nat) y,rs[j]?=some y→y.k=x.k→j=p:=fun j y hy e=>by
  rcases Nat.lt_trichotomy j p with h1 | h1 | h1
  ·exact absurd e (hC.pr h1 hy hx).1
  ·exact h1
  ·exact absurd e.symm (hC.pr h1 hx hy).1
 have old:∀ (j:Nat) y,rs[j]?=some y→j≠p→Lk (listed.setIfInBounds x.k true) y.k→Lk listed y.k:=fun j y hy hj h=>by
  rcases (kK hk).1 h with h | h
  ·exact absurd (same j y hy h) hj
  ·exact h
 have hnew:(w.alloc ob).heap[w.heap.size]?=some ob:=heap_alloc_new w _;have hold:∀ b,b<w.heap.size→(w.alloc ob).heap[b]?=w.heap[b]?:=fun b hb=>heap_alloc_old w _ b hb
 have st:Step T w0 ng g hp (H r).1 (H r).2 w g hp (H r).1 (H r).2 (w.alloc ob) := .idle hI.step.hr hI.step.sub (iR w ob) hold;have hfree:∀ id o,hp id=some o→(g id).b≠w.heap.size:=fun id o ho=>by
  have hob:=(hI.step.hr.obj id o ho).2;cases o with
  | blk ro sz hi cs=>
    obtain ⟨cur,Tb,fz,h1,_⟩:=hob;have:=(Array.getElem?_eq_some_iff.1 h1).1;omega
  | map kt es=>
    obtain ⟨ents,clock,h1,_⟩:=hob;have:=(Array.getElem?_eq_some_iff.1 h1).1;omega
 refine ⟨hI.rN,by simpa using hI.size,hcl,fun j y hj hy=>wF (hI.low j y hj hy),fun j y hj hy hc h=>?_,hI.step.trans st,?_,?_,fun q hq hqu t ht hw u' hg=>?_,fun j y hj hy hc hl=>?_,fun j j' y y' h1 h2 h3 h4 h5 h6 h7 h8 h9=>?_⟩
 ·have hjp:j≠p:=fun e=>by subst e;rw [hx] at hy;cases hy;omega
  exact hI.high j y hj hy hc (old j y hy hjp h)
 ·cases x.o.dst<;>simpa [Act.put] using hI.defers
 ·cases x.o.dst<;>simpa [Act.put] using hI.oH
 ·
  have hqu':∀ y,rs[q]?=some y→¬ Lk listed y.k:=fun y hy h=>hqu y hy (wF h)
  have hqp:q≠p:=fun e=>by subst e;exact hqu x hx ((kK hk).2 (.inl rfl))
  have hne:x.o.dst≠some t:=fun e=>by
   rcases Nat.lt_or_ge p q with h | h
   ·have:=(hw p x h hx e).2 hz;omega
   ·have hlt:q<p:=(by omega);have hp2:rs[q]?=some rs[q]:=List.getElem?_eq_getElem (by omega);rcases (hC.pr hlt hp2 hx).2.1 with h | ⟨_,_,h⟩
    ·exact hqu' _ hp2 (hmask _ h)
    ·exact h t e (ht _ hp2)
  rw [(get_put hI.oH hd u t).2 hne];refine hI.env q hq hqu' t ht (fun j y hj hy hdy=>⟨?_,(hw j y hj hy hdy).2⟩) u' hg;have hjp:j≠p:=fun e=>by subst e;rw [hx] at hy;cases hy;exact hne hdy
  exact old j y hy hjp (hw j y hj hy hdy).1
 ·by_cases hjp:j=p
  ·subst hjp;rw [hx] at hy;cases hy;simp only [if_true];refine ⟨hI.step.sz,by simp,hfree,d,ob,g,(H r).2.num,hdx,hnew,.refl _ _,Nat.le_refl _,fun g1 hp1 w1 e1 e2 e3 e4 e5 e6=>?_⟩;obtain ⟨g',hp',q1,q2⟩:=hreg g1 hp1 w1 e1 e2 e3 e4 e5 hI.step.hr.size e6;exact ⟨g',hp',q1,by rw [(get_put hI.oH hd u d).1 hdx];exact q2⟩
  ·simp only [if_neg hjp];have hpd:=hI.pend j y hj hy hc (old j y hy hjp hl);refine hpd.keep (by simp) (hold _ hpd.hi) hpd.free (.refl _ _) (Nat.le_refl _) fun d' hdy=>(get_put hI.oH hd u d').2 fun e=>?_
   rcases Nat.lt_trichotomy j p with h1 | h1 | h1
   ·exact (hC.pr h1 hy hx).2.2.2 (.inl hc) d' hdy e
   ·exact hjp h1
   ·exact (hC.pr h1 hx hy).2.2.2 (.inr hc) d' e hdy
 ·by_cases e1:j=p
  ·have e2:j'≠p:=(by omega);have:=(hI.pend j' y' h2 h4 h6 (old j' y' h4 e2 h8)).hi;rw [if_pos e1,if_neg e2];omega
  ·by_cases e2:j'=p
   ·have:=(hI.pend j y h1 h3 h5 (old j y h3 e1 h7)).hi;rw [if_neg e1,if_pos e2];omega
   ·rw [if_neg e1,if_neg e2];exact hI.dist j j' y y' h1 h2 h3 h4 h5 h6 (old j y h3 e1 h7) (old j' y' h4 e2 h8) h9
end
section
variable {ds:List Deferred} {P:Program} {T:Nat→TE} {w0:World} {ng nt:Nat} {ops:List Oper} {ms:List Nat} {rs:List Rec} {E:Nat→Tr V} {H:Nat→Tr Obj×B} {hn:Nat→List (Tr Obj×B)} {b:Nat→Bool} {v:Nat→V}
theorem Inv.op (hC:Can P T w0 ng nt ops ms rs E H hn b v) {g0:Gh} {hp0:B→Option Obj} {wS:World} {listed:Array Bool} {a:Act} {w:World} {r:Nat} {g:Gh} {hp:B→Option Obj} {bl:Nat→Nat}
  (hI:Inv T w0 ng nt ops rs E H v ds g0 hp0 wS listed a w r g hp bl) (hst:Start rs r) {k:Nat} (hk:k∈Region.ready .any ops.toArray listed) {Q:Exit→Act→World→Prop} {K:Act→World→Prop}
  (hK:∀ a' w' r' g' hp' bl',Start rs r'→Inv T w0 ng nt ops rs E H v ds g0 hp0 wS (listed.setIfInBounds k true) a' w' r' g' hp' bl'→K a' w'):wpOp P ops.toArray Q k K a w:=by
 obtain ⟨p,x,hx,rfl,hun,hks,hat,hmask,hcl⟩:=yR hC hI.size hI.closed hk;have hpN:p<rs.length:=(List.getElem?_eq_some_iff.1 hx).1;obtain ⟨hmk,hlk,hf⟩:=hC.tf p x hx;have hrp:∀ {r:Nat},(∀ (p:Nat) x,p<r→rs[p]?=some x→Lk listed x.k)→r≤p:=fun {r} hlow=>by
  rcases Nat.lt_or_ge p r with h | h
  ·exact absurd (hlow p x h hx) hun
  ·exact h
 have hlow:∀ (j:Nat) y,j<p→rs[j]?=some y→x.cl=2→Lk listed y.k:=fun j y hj hy hc=>hmask _ ((hC.pr hj hy hx).2.2.1 hc)
 unfold wpOp;rw [hat];simp only;by_cases hc:x.cl=2
 ·
  obtain ⟨g1,hp1,hI1⟩:=hI.advances hC (p-r) (q:=p) (by have:=hrp hI.low;omega) (fun j y hj hjp hy=>⟨fun e=>hI.high j y hj hy e (hlow j y hjp hy hc),hlow j y hjp hy hc⟩) (by omega);have hAR:=hI1.ar hC hx hun hmask fun j y t hj _ _ _ _=>hj
  have hw:=(Gy hf.wd).wanted hAR hC.hd;rw [hw];cases hb:b p with
  | false=>
    rw [if_neg (by simp)];obtain ⟨e1,e2⟩:=hf.no hb;refine hK _ _ (p+1) _ _ bl (.inr ⟨p,x,rfl,hx,hc⟩) (hI1.put hC hx hks hun hmask hcl (by omega) (.inl ⟨hc,rfl,rfl⟩) (g':=g1) (hp':=hp1) ?_ (by rw [e1];exact .undef));rw [e2];exact .refl hI1.step.hr hI1.step.sub
  | true=>
    rw [if_pos rfl];refine .inl (hf.c hb hc g1 hp1 a w hI1.step.hr hI1.step.sub (by rw [zi,← wL (ops:=ops)];exact hAR.Oi hI1.step.hr _) K Q fun g2 hp2 u w2 st hu=>?_);exact hK _ _ (p+1) _ _ bl (.inr ⟨p,x,rfl,hx,hc⟩) (hI1.put hC hx hks hun hmask hcl (by omega) (.inl ⟨hc,rfl,rfl⟩) st hu)
 ·have hAR:=hI.ar hC hx hun hmask fun j y t hj hy h1 hd ht=>by
   obtain ⟨q,c,h2,h3,h4,h5,h6⟩:=hC.lz hj hy hx h1 hd ht;rcases h6 with rfl | h6
   ·rw [hx] at h4;cases h4;exact absurd h5 hc
   ·rcases Nat.lt_or_ge q r with h | h
    ·omega
    ·exact absurd (hmask _ h6) (hI.high q c h h4 h5)
  have hw:=(Gy hf.wd).wanted hAR hC.hd;rw [hw];have hev:RVL g (H r).2.num ((bJ x.o.op).map (opV ng (E p))) (x.o.op.operands.toList.map a.eval):=by rw [zi,← wL (ops:=ops)];exact hAR.Oi hI.step.hr _
  cases hb:b p with
  | false=>
    rw [if_neg (by simp)];obtain ⟨e1,e2⟩:=hf.no hb;have hnz:x.cl≠1:=fun e=>by
     have hg:=((hC.one hx).2 e).1;have:=hf.wd;unfold Wd at this;rw [hg,hb] at this;cases this
    exact hK _ _ r _ _ bl hst (hI.put hC hx hks hun hmask hcl hnz (.inr ⟨hc,rfl⟩) (.refl hI.step.hr hI.step.sub) (by rw [e1];exact .undef))
  | true=>
    rw [if_pos rfl];left;unfold Oper.wp;by_cases hz:x.cl=1
    ·obtain ⟨u,ob,hrun,hreg⟩:=hf.z hb hz g (H r).2.num a.eval w hev;rw [hrun];exact hK _ _ r _ _ _ hst (hI.lazy hC hx hks hun hmask hcl hz hreg)
    ·have h0:x.cl=0:=(by have:=hC.cl3 p x hx;omega);obtain ⟨u,hrun,hu⟩:=Tf hC hst (hrp hI.low) hI.high hx h0 hb hmask g hp a.eval w hI.step.hr hI.step.sub hev;rw [hrun];exact hK _ _ r _ _ bl hst (hI.put hC hx hks hun hmask hcl hz (.inr ⟨hc,rfl⟩) (.refl hI.step.hr hI.step.sub) hu)
theorem Ld (hms:pR ops ms) {listed:Array Bool} (hs:listed.size=ops.length) (h:Region.ready .any ops.toArray listed=[]):∀ k,k<ops.length→Lk listed k:=by
 obtain ⟨rk,h1,h3⟩:=hms;have key:∀ n k,rk k<n→k<ops.length→Lk listed k:=by
  intro n
  induction n with
  | zero=>intro k hk;omega
  | succ n ih=>
    intro k hn hk;have ho:ops[k]?=some ops[k]:=List.getElem?_eq_getElem hk;have hnr:k∉Region.ready .any ops.toArray listed:=(by rw [h];simp);rw [mem_ready] at hnr;unfold Lk;cases hl:listed.getD k true with
    | true=>
      have:k<listed.size:=by omega
      simpa [this] using hl
    | false=>
      refine absurd ⟨hl,ops[k],by simpa using ho,fun e he hb=>?_⟩ hnr;have:=(h3 k _ ho).1 e he hb;exact ih e.on (by omega) this.2
 exact fun k hk=>key (rk k+1) k (by omega) hk
def unl (listed:Array Bool):Nat:=listed.toList.countP (fun x=>!x)
theorem xO {listed:Array Bool} {k:Nat} (hk:k<listed.size) (hu:¬ Lk listed k):unl (listed.setIfInBounds k true)+1=unl listed:=by
 unfold unl;have h0:listed.toList[k]?=some false:=by
  unfold Lk at hu;simp [hk] at hu;simp [hk,hu]
 rw [Array.toList_setIfInBounds];generalize listed.toList=l at h0;clear hu hk
 induction l generalizing k with
 | nil=>simp at h0
 | cons z l ih=>
   cases k with
   | zero=>simp at h0;subst h0;simp
   | succ k=>
     have:=ih (k:=k) (by simpa using h0);simp only [List.set_cons_succ,List.countP_cons];omega
theorem Inv.wpAny (hC:Can P T w0 ng nt ops ms rs E H hn b v) {g0:Gh} {hp0:B→Option Obj} {wS:World} {Q:Exit→Act→World→Prop}
  (hQ:∀ g' hp' a' w',Step T w0 ng g0 hp0 (H 0).1 (H 0).2 wS g' hp' (H rs.length).1 (H rs.length).2 w'→AR ds g' (H rs.length).2.num nt (E rs.length) a'→Q .normal a' w') :
  ∀ (fuel:Nat) (listed:Array Bool) (a:Act) (w:World) (r:Nat) (g:Gh) (hp:B→Option Obj) (bl:Nat→Nat),Start rs r→Inv T w0 ng nt ops rs E H v ds g0 hp0 wS listed a w r g hp bl→unl listed≤fuel→Go.wpAny P .any ops.toArray Q fuel listed a w:=by
 intro fuel;have fin:∀ (listed:Array Bool) (a:Act) (w:World) (r:Nat) (g:Gh) (hp:B→Option Obj) (bl:Nat→Nat),Inv T w0 ng nt ops rs E H v ds g0 hp0 wS listed a w r g hp bl→Region.ready .any ops.toArray listed=[]→Q .normal a w:=fun listed a w r g hp bl hI hr=>by
  have hall:=Ld hC.mks hI.size hr;have hl:∀ (j:Nat) y,rs[j]?=some y→Lk listed y.k:=fun j y hy=>by
   have:=(hC.tf j y hy).2.2.at_;exact hall _ (List.getElem?_eq_some_iff.1 this).1
  obtain ⟨g1,hp1,hI1⟩:=hI.advances hC (rs.length-r) (q:=rs.length) (by have:=hI.rN;omega) (fun j y hj _ hy=>⟨fun e=>hI.high j y hj hy e (hl j y hy),hl j y hy⟩) (Nat.le_refl _);refine hQ g1 hp1 a w hI1.step ⟨hI1.defers,hI1.oH,fun t u hg=>?_⟩;exact hI1.env rs.length (Nat.le_refl _) (fun y hy=>by simp at hy) t (fun y hy=>by simp at hy) (fun j y hj hy _=>⟨hl j y hy,fun _=>hj⟩) u hg
 induction fuel with
 | zero=>
   intro listed a w r g hp bl hst hI hu;have hr:Region.ready .any ops.toArray listed=[]:=by
    cases hr:Region.ready .any ops.toArray listed with
    | nil=>rfl
    | cons k l=>
      obtain ⟨p,x,hx,rfl,hun,hks,_⟩:=yR hC hI.size hI.closed (k:=k) (by rw [hr];simp);have:=xO hks hun;omega
   exact ⟨hr,fin listed a w r g hp bl hI hr⟩
 | succ fuel ih=>
   intro listed a w r g hp bl hst hI hu;refine ⟨fun hr=>fin listed a w r g hp bl hI hr,fun k hk=>hI.op hC hst hk fun a' w' r' g' hp' bl' hst' hI'=>ih _ a' w' r' g' hp' bl' hst' hI' ?_⟩;obtain ⟨p,x,hx,rfl,hun,hks,_⟩:=yR hC hI.size hI.closed hk;have:=xO hks hun;omega
theorem LQ:∀ {its:List DI} {rs:List Rec},recs ops ms its=some rs→∀ (p:Nat) x,rs[p]?=some x→x.cl<3
 | [],rs,h,p,x,hx=>by simp [recs] at h;subst h;simp at hx
 | it::its,rs,h,p,x,hx=>by
   unfold recs at h;split at h
   case h_2=>cases h
   rename_i o m r' ho hm hr';simp at h;subst h;cases p with
   | zero=>simp at hx;subst hx;cases it<;>simp [DI.cl]
   | succ p=>exact LQ hr' p x (by simpa using hx)
def ajO (P:Program) (T:Nat→TE) (w0:World) (ng nt:Nat) (its:List DI) (ops:List Oper):Prop:=∀ call,jd P T w0 ng call→∀ env t nx (K:KE) r,(∀ n,R.bad n≠r)→xH its ops T call ng env t nx [(t,nx)] K=r →
 ∃ env' t' nx',K env' t' nx'=r∧∀ {ds:List Deferred} id g hp a w,HR T w0 ng g hp nx w→Sub t hp→AR ds g nx.num nt env a→∀ Q:Exit→Act→World→Prop,
   (∀ g' hp' a' w',Step T w0 ng g hp t nx w g' hp' t' nx' w'→AR ds g' nx'.num nt env' a'→Q .normal a' w')→(Code.region id ops.toArray true).wp P Q a w
theorem Ws {its:List DI} (hd:∀ o∈ops,∀ d,o.dst=some d→d<nt) (hms:pR ops ms) (hrs:recs ops ms its=some rs) (h1:Jg rF rs=true) (h2:iw rs=true) (h3:backOk [] rs=true) (h4:yu ops.length rs=true)
  (e3:hn 0=[H 0]) (e5:∀ (p:Nat) x,rs[p]?=some x→ms[x.k]?=some x.mask∧x.looks=iQ ops x.o∧pK P T w0 ng ops x (E p) (E (p+1)) (H p) (H (p+1)) (hn p) (hn (p+1)) (b p) (v p)):Can P T w0 ng nt ops ms rs E H hn b v:=by
 refine ⟨h1,LQ hrs,h2,fun p x hx hc=>?_,fun k hk=>?_,hms,e5,hd,fun p=>?_⟩
 ·have:=wY (rs:=rs) (r2:=rs) (r1:=[]) rfl h3 p x hx hc
  simpa using this
 ·have:=List.all_eq_true.1 h4 k (by simpa using hk);obtain ⟨x,hx,hxk⟩:=List.any_eq_true.1 this;obtain ⟨p,hp⟩:=List.getElem?_of_mem hx;exact ⟨p,x,hp,beq_iff.1 hxk⟩
 ·induction p with
  | zero=>intro _;rw [e3];rfl
  | succ p ih=>
    intro hp;have hx:rs[p]?=some rs[p]:=List.getElem?_eq_getElem (by omega);have hf:=(e5 p _ hx).2.2;rw [hf.hh,ih (by omega)];simp only [chp,hx];split<;>simp
theorem Can.any (hC:Can P T w0 ng nt ops ms rs E H hn b v) {env:Tr V} {t:Tr Obj} {nx:B} (e1:E 0=env) (e2:H 0=(t,nx)) {g:Gh} {hp:B→Option Obj} {a:Act} {w:World} (g1:HR T w0 ng g hp nx w) (g2:Sub t hp) (g3:AR ds g nx.num nt env a) {Q:Exit→Act→World→Prop}
  (hQ:∀ g' hp' a' w',Step T w0 ng g hp t nx w g' hp' (H rs.length).1 (H rs.length).2 w'→AR ds g' (H rs.length).2.num nt (E rs.length) a'→Q .normal a' w') :
  Go.wpAny P .any ops.toArray Q ops.toArray.size (Array.replicate ops.toArray.size false) a { w with drawn:=w.drawn+1 }:=by
 have hw1:HR T w0 ng g hp nx { w with drawn:=w.drawn+1 }:=by
  refine ⟨g1.os,g1.tape,g1.output,g1.size,g1.old,fun id o ho=>?_,g1.sep,g1.new,g1.glob,g1.ngx⟩;obtain ⟨q1,q2⟩:=g1.obj id o ho;refine ⟨q1,?_⟩;cases o<;>exact q2
 have hstart:Step T w0 ng g hp (H 0).1 (H 0).2 w g hp (H 0).1 (H 0).2 { w with drawn:=w.drawn+1 }:=by
  rw [e2];exact .idle g1 g2 ⟨rfl,rfl,rfl,Nat.le_refl _,fun _=>Nat.le_succ _⟩ fun _ _=>rfl
 have hnl:∀ k,¬ Lk (Array.replicate ops.length false) k:=fun k h=>by
  unfold Lk at h;by_cases hk:k<ops.length<;>simp [Array.getElem?_replicate,hk] at h
 have hI:Inv T w0 ng nt ops rs E H v ds g hp w (Array.replicate ops.length false) a { w with drawn:=w.drawn+1 } 0 g hp (fun _=>0):=by
  refine ⟨Nat.zero_le _,by simp,fun j o hj=>absurd hj (hnl j),fun p x hp=>by omega,fun p x _ _ _=>hnl _,hstart,g3.defers,g3.size,fun p hp _ u ht hw' x hx=>?_,fun p x _ _ _ hl=>absurd hl (hnl _),fun p p' x x' _ _ _ _ _ _ hl=>absurd hl (hnl _)⟩;have hk:=hC.keep (t:=u) (i:=0) p (Nat.zero_le _) hp fun q y _ hq hy hd=>hnl _ (hw' q y hq hy hd).1
  rw [hk,e1] at hx;rw [e2];exact g3.env u x hx
 have:=hI.wpAny hC (Q:=Q) (fun g' hp' a' w' st ha=>by
  rw [e2] at st;exact hQ g' hp' a' w' st ha) ops.length _ _ _ _ _ _ _ (.inl rfl) (by
   unfold unl;refine Nat.le_trans List.countP_le_length ?_
   simp)
 simpa using this
theorem QM (hT:TOK P T) (hm:P.follows .mixedOrders=true) {its:List DI} (hd:∀ o∈ops,∀ d,o.dst=some d→d<nt) (h:rO ops its=true):ajO P T w0 ng nt its ops:=by
 unfold rO at h;split at h
 case h_2=>cases h
 rename_i ms hms;split at h
 case h_2=>cases h
 rename_i rs hrs;simp only [Bool.and_eq_true] at h;obtain ⟨⟨⟨h1,h2⟩,h3⟩,h4⟩:=h;intro call hc env t nx K r hr hrun;obtain ⟨E,H,hn,b,v,e1,e2,e3,e4,e5⟩:=LJ (P:=P) (w0:=w0) hT hc hr hrs h2 hrun;exact ⟨_,_,_,e4,fun id g hp a w g1 g2 g3 Q hQ=>wp_region_any hm ((Ws hd (CO hms) hrs h1 h2 h3 h4 (by rw [e3,e2]) e5).any e1 e2 g1 g2 g3 hQ)⟩
end
def Valid (ops:Array Oper):Array Bool→List Nat→Prop
 | listed,[]=>Region.ready .any ops listed=[]
 | listed,k::l=>k∈Region.ready .any ops listed∧Valid ops (listed.setIfInBounds k true) l
theorem oC {P:Program} {ops:Array Oper} {Q:Exit→Act→World→Prop}:∀ (ord:List Nat) (fuel:Nat) (listed:Array Bool) (a:Act) (w:World),wpAny P .any ops Q fuel listed a w→Valid ops listed ord→wpOps P ops Q ord a w
 | [],fuel,listed,a,w,h,hv=>by
   cases fuel with
   | zero=>exact h.2
   | succ n=>exact h.1 hv
 | k::l,fuel,listed,a,w,h,hv=>by
   cases fuel with
   | zero=>have h0:k∈Region.ready .any ops listed:=hv.1;rw [h.1] at h0;cases h0
   | succ n=>
     rw [wpOps_cons];exact wpOp_mono (fun a w h=>oC l n _ a w h hv.2) (h.2 k hv.1)
theorem CV {ops:Array Oper}:∀ (fuel t:Nat) (listed:Array Bool),listed.size=ops.size→unl listed≤fuel→Valid ops listed (Region.linearise.go .any ops fuel t listed [])
 | 0,t,listed,hs,hu=>by
   show Region.ready .any ops listed=[];cases hr:Region.ready .any ops listed with
   | nil=>rfl
   | cons k l=>
     have hk:k∈Region.ready .any ops listed:=(by rw [hr];simp);obtain ⟨h1,o,ho,_⟩:=mem_ready.1 hk;have hlt:k<listed.size:=(by rw [hs];exact (Array.getElem?_eq_some_iff.1 ho).1);have:=xO hlt (fun h=>by unfold Lk at h;simp [hlt] at h h1;rw [h] at h1;cases h1);omega
 | fuel+1,t,listed,hs,hu=>by
   unfold Region.linearise.go
   change Valid ops listed (match (Region.ready .any ops listed)[t % (Region.ready .any ops listed).length]? with
    | some i=>Region.linearise.go .any ops fuel (t / (Region.ready .any ops listed).length) (listed.setIfInBounds i true) [i]
    | none=>[].reverse)
   cases hi:(Region.ready .any ops listed)[t % (Region.ready .any ops listed).length]? with
   | none=>
     show Region.ready .any ops listed=[];cases hr:Region.ready .any ops listed with
     | nil=>rfl
     | cons x xs=>
       rw [hr] at hi;have hlt:t % (x::xs).length<(x::xs).length:=Nat.mod_lt _ (by simp);simp at hi;simp at hlt;omega
   | some i=>
     have him:=List.mem_of_getElem? hi;obtain ⟨h1,o,ho,_⟩:=mem_ready.1 him;have hlt:i<listed.size:=(by rw [hs];exact (Array.getElem?_eq_some_iff.1 ho).1);have:=xO hlt (fun h=>by unfold Lk at h;simp [hlt] at h h1;rw [h] at h1;cases h1);show Valid ops listed (Region.linearise.go .any ops fuel _ (listed.setIfInBounds i true) [i]);rw [linearise_go_acc,List.reverse_singleton,List.singleton_append];exact ⟨him,CV fuel _ _ (by simpa using hs) (by omega)⟩
def WH (a:Nat) (o:Oper):Oper:={ o with after:=o.after.push ⟨a,.data⟩ }
def gu (ops:List Oper) (b a:Nat):List Oper:=match ops[b]? with | some o=>ops.set b (WH a o) | none=>ops
theorem xq (ops:List Oper) (b a:Nat):(gu ops b a).length=ops.length:=by
 unfold gu;split<;>simp
theorem kH (ops:List Oper) (b a k:Nat):(gu ops b a)[k]?=(ops[k]?).map fun o=>if k=b then WH a o else o:=by
 unfold gu;split
 ·rename_i o ho;rw [List.getElem?_set];have hlt:b<ops.length:=(List.getElem?_eq_some_iff.1 ho).1;split
  ·rename_i e;subst e;simp [hlt,ho];have:=List.getElem?_eq_some_iff.1 ho;rw [this.2]
  ·rename_i e;have:¬ k=b:=fun h=>e h.symm
   cases hk:ops[k]?<;>simp [this]
 ·rename_i ho;cases hk:ops[k]? with
  | none=>rfl
  | some o=>
    have:¬ k=b:=fun h=>by rw [h,ho] at hk;cases hk
    simp [this]
theorem iq {ops:List Oper} {b a:Nat} {listed:Array Bool} {k:Nat}:k∈Region.ready .any (gu ops b a).toArray listed↔k∈Region.ready .any ops.toArray listed∧(k=b→listed.getD a false=true):=by
 rw [mem_ready,mem_ready];simp only [List.getElem?_toArray,kH];cases hk:ops[k]? with
 | none=>simp
 | some o=>
   simp only [Option.map_some,Option.some.injEq,exists_eq_left'];by_cases e:k=b
   ·subst e;simp only [if_true,WH,Array.mem_push];constructor
    ·rintro ⟨h1,h2⟩;exact ⟨⟨h1,fun e he hb=>h2 e (.inl he) hb⟩,fun _=>h2 ⟨a,.data⟩ (.inr rfl) rfl⟩
    ·rintro ⟨⟨h1,h2⟩,h3⟩;refine ⟨h1,fun e he hb=>?_⟩;rcases he with he | he
     ·exact h2 e he hb
     ·rw [he];simpa using h3
   ·simp only [if_neg e];constructor
    ·rintro ⟨h1,h2⟩;exact ⟨⟨h1,h2⟩,fun h=>absurd h e⟩
    ·rintro ⟨⟨h1,h2⟩,_⟩;exact ⟨h1,h2⟩
theorem oD {ops:List Oper} {b a:Nat}:∀ (l:List Nat) (listed:Array Bool),listed.getD a false=true→Valid ops.toArray listed l→Valid (gu ops b a).toArray listed l
 | [],listed,ha,h=>by
   show Region.ready .any (gu ops b a).toArray listed=[];have h:Region.ready .any ops.toArray listed=[]:=h;cases hr:Region.ready .any (gu ops b a).toArray listed with
   | nil=>rfl
   | cons k l=>
     have:=(iq (listed:=listed) (k:=k)).1 (by rw [hr];simp);rw [h] at this;cases this.1
 | k::l,listed,ha,h=>⟨iq.2 ⟨h.1,fun _=>ha⟩,oD l _ (getD_set_true ha) h.2⟩
theorem wI {ops:List Oper} {a b:Nat} (hab:a≠b):∀ (l:List Nat) (listed:Array Bool),listed.size=ops.length→Valid ops.toArray listed l→Valid (gu ops b a).toArray listed l∨Valid (gu ops a b).toArray listed l
 | [],listed,_,h=>by
   left;show Region.ready .any (gu ops b a).toArray listed=[];have h:Region.ready .any ops.toArray listed=[]:=h;cases hr:Region.ready .any (gu ops b a).toArray listed with
   | nil=>rfl
   | cons k l=>
     have:=(iq (listed:=listed) (k:=k)).1 (by rw [hr];simp);rw [h] at this;cases this.1
 | k::l,listed,hs,h=>by
   obtain ⟨h1,o,ho,_⟩:=mem_ready.1 h.1;have hlt:k<listed.size:=by
    have:=(Array.getElem?_eq_some_iff.1 ho).1;rw [hs];simpa using this
   have hset:(listed.setIfInBounds k true).getD k false=true:=(by simp [hlt]);by_cases e:k=a
   ·subst e;exact .inl ⟨iq.2 ⟨h.1,fun e=>absurd e hab⟩,oD l _ hset h.2⟩
   ·by_cases e':k=b
    ·subst e';exact .inr ⟨iq.2 ⟨h.1,fun e2=>absurd e2 e⟩,oD l _ hset h.2⟩
    ·rcases wI hab l _ (by simpa using hs) h.2 with h2 | h2
     ·exact .inl ⟨iq.2 ⟨h.1,fun h=>absurd h e'⟩,h2⟩
     ·exact .inr ⟨iq.2 ⟨h.1,fun h=>absurd h e⟩,h2⟩
theorem qX {P:Program} {ops:List Oper} {b a:Nat} {Q:Exit→Act→World→Prop}:∀ (l:List Nat) (act:Act) (w:World),wpOps P (gu ops b a).toArray Q l act w→wpOps P ops.toArray Q l act w
 | [],act,w,h=>h
 | k::l,act,w,h=>by
   rw [wpOps_cons] at h ⊢;have hy:∀ tm,yielded (gu ops b a).toArray tm=yielded ops.toArray tm:=fun tm=>by
    funext j;unfold yielded;simp only [List.getElem?_toArray,kH];cases hj:ops[j]? with
    | none=>rfl
    | some o=>
      have:(if j=b then WH a o else o).dst=o.dst:=(by split<;>rfl);simp only [Option.map_some,Option.bind_some,this]
   refine wpOp_mono (K:=wpOps P (gu ops b a).toArray Q l) (fun a' w h=>qX (a:=a) (b:=b) l a' w h) ?_;unfold wpOp at h ⊢;rw [hy] at h;simp only [List.getElem?_toArray,kH] at h ⊢;cases hk:ops[k]? with
   | none=>rw [hk] at h;exact h
   | some o=>
     rw [hk] at h;simp only [Option.map_some] at h ⊢;by_cases e:k=b
     ·rw [if_pos e] at h;exact h
     ·rw [if_neg e] at h;exact h
theorem xu {P:Program} (hm:P.follows .mixedOrders=true) {ops:List Oper} {a b:Nat} (hab:a≠b) {id:Nat} {Q:Exit→Act→World→Prop} {act:Act} {w:World}
  (h1:wpAny P .any (gu ops b a).toArray Q (gu ops b a).toArray.size (Array.replicate (gu ops b a).toArray.size false) act { w with drawn:=w.drawn+1 })
  (h2:wpAny P .any (gu ops a b).toArray Q (gu ops a b).toArray.size (Array.replicate (gu ops a b).toArray.size false) act { w with drawn:=w.drawn+1 }):(Code.region id ops.toArray true).wp P Q act w:=
 wp_region_draw fun t=>by
  simp only [Region.schedule,hm,Bool.true_or,if_true];have hu:unl (Array.replicate ops.toArray.size false)≤ops.toArray.size:=by
   unfold unl;exact Nat.le_trans List.countP_le_length (by simp)
  have hv:Valid ops.toArray (Array.replicate ops.toArray.size false) (Region.linearise .any ops.toArray t):=CV (ops:=ops.toArray) ops.toArray.size t _ (by simp) hu;have e1:(gu ops b a).toArray.size=ops.toArray.size:=by simp [xq]
  have e2:(gu ops a b).toArray.size=ops.toArray.size:=by simp [xq]
  rw [e1] at h1;rw [e2] at h2;rcases wI hab _ _ (by simp) hv with h | h
  ·exact qX _ _ _ (oC _ _ _ _ _ h1 h)
  ·exact qX _ _ _ (oC _ _ _ _ _ h2 h)
end Go.Sim
