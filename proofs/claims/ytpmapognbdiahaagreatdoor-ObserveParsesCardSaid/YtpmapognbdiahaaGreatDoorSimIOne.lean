/- Sim: slices made, structs and slices built, elements appended, elements copied. -/
import Derived.Test.YtpmapognbdiahaaGreatDoorSimG2And
import Derived.Lib.AppendZerosOnto
set_option linter.all false
namespace Go.Sim
open Go Go.RowKit
open Go.Abs (TE TK SK TOK TFacts patch size_patch patch_in patch_out)
section
variable {P:Program} {T:Nat→TE} {w0:World} {ng:Nat}
theorem jF {k:TK} {e:Nat} (h:AV k=some e):k = .slc e:=by
 cases k<;>simp [AV] at h;subst h;rfl
theorem row_step {g:Gh} {hp:B→Option Obj} {t:Tr Obj} {nx:B} {w w':World} (h:HR T w0 ng g hp nx w) (hs:Sub t hp) (hl:Like ng w w') {cur:Array Value} {Tb:TypeId} (hw:w'.heap[w.heap.size]?=some (.cells cur Tb (0,0)))
  (hold:∀ b,b<w.heap.size→w'.heap[b]?=w.heap[b]?) {cs:Tr V} {m sz n c:Nat} {cap:Option Nat} (hc:CR g nx.num cs cur) (hm:m≤cur.size) (hlt:∀ j v,(bOf j).get cs=some v→j<m)
  (h1:n≤c) (h2:c≤maxL) (h3:∀ k,cap=some k→c=k) (h4:0<sz) (h5:c*sz≤cur.size) :
  ∃ g' hp',Step T w0 ng g hp t nx w g' hp' (nx.put t (some (.blk false m m cs))) nx.inc w'∧RV g' nx.inc.num (.sl nx sz 0 n cap) (.slice (some ⟨w.heap.size,0,none⟩) n c):=by
 refine ⟨_,_,Nv h hs hl hw hold hc hm hlt,?_⟩;exact .sl nx sz 0 n cap _ c (by rw [B.fO];omega) h1 h2 h3 h4 (by simp [dL];exact h5) (fun _=>by simp [dL])
theorem qW (g:Gh) (n:Nat) {z:Value} (h1:List.all (cellsOf (cV z)) one=true) (m:Nat) {arr:Array Value} (ha:∀ i,i<m*z.cells.size→arr[i]?=z.cells[i % z.cells.size]?) :
  CR g n (fB (rep m (cellsOf (cV z))) .lf 0) arr∧(rep m (cellsOf (cV z))).length=m*z.cells.size:=by
 obtain ⟨q1,q2⟩:=(qL g n z).cells h1;have hl:(rep m (cellsOf (cV z))).length=m*z.cells.size:=by rw [iC,q1]
 refine ⟨fun j v hv=>?_,hl⟩;rw [bY] at hv;split at hv
 ·rename_i hj;have hj':j<m*z.cells.size:=by omega
  have hp:0<z.cells.size:=Nat.pos_of_ne_zero fun e=>by rw [e,Nat.mul_zero] at hj';omega
  rw [Nat.sub_zero,yh m _ j (by omega) (by rw [← q1];exact hj'),← q1] at hv;have hm:j % z.cells.size<z.cells.size:=Nat.mod_lt _ hp;obtain ⟨r1,r2⟩:=q2 _ v _ hv (Array.getElem?_eq_getElem hm);exact ⟨_,(ha j hj').trans (Array.getElem?_eq_getElem hm),r1,r2⟩
 ·rw [B.dO] at hv;cases hv
theorem uf (z:Array Value) (m:Nat) (hz:0<z.size) (i:Nat) (hi:i<m):(madeCells z m)[i]?=z[i % z.size]?:=by
 have hm:i % z.size<z.size:=Nat.mod_lt _ hz;simp [madeCells,hi,hm]
theorem Bc (hT:TOK P T) {o:Oper} {t:Nat} {l c:Operand} (ho:o.op = .makeSlice t l c):HOK P T w0 ng o (zQ t):=by
 intro call _ vals hh nx K r hr h;obtain ⟨e,he,k1⟩:=eF h (hr _);obtain ⟨b1,k2⟩:=aG k1 (hr _);obtain ⟨vl,vc,rfl,k3⟩:=lq k2 (hr _);obtain ⟨kl,li,rfl,k4⟩:=dH k3 (hr _);obtain ⟨kc,ci,rfl,k5⟩:=dH k4 (hr _);obtain ⟨cn,rfl,hc,k6⟩:=iY k5 (hr _);obtain ⟨ln,rfl,hl,k7⟩:=iY k6 (hr _);obtain ⟨b2,k8⟩:=aG k7 (hr _);obtain ⟨hkn,hpos⟩:=aB b1;obtain ⟨hbig,h1⟩:=aB b2;rw [sQ,dS,aI,gy] at k8;have hpos':=aN.1 hpos;have hbig':cn*(T e).bytes≤16777216:=aY.1 hbig;have hbytes:((T e).bytes:Int)*cn≤281474976710656:=by
  have:((T e).bytes:Int)*cn=((cn*(T e).bytes:Nat):Int):=by rw [Nat.mul_comm,Int.natCast_mul]
  rw [this];omega
 have hu:=hT.slc (jF he);obtain ⟨d,i,hf⟩:=hT.facts (Abs.TE.bg hkn);have hzs:(T e).zero.cells.size=(T e).size:=hf.kQ;refine ⟨_,_,_,k8,.of_run fun g hp ρ w g1 g2 g3=>?_⟩;obtain ⟨hx,hy⟩:=oK (x:=l) (y:=c) (by simp [ho,Op.operands]) g3;generalize hvl:ρ l=vl at hx;generalize hvc:ρ c=vc at hy;cases hx;cases hy;have hrun:=Go.run_make (P:=P) w t e i (T e).zero hu hf.info hf.zero kl kc ln cn (by omega) (by omega) (by rw [hf.bytes];exact hbytes) (by omega);simp only [Int.toNat_natCast] at hrun;rw [hf.size] at hrun;obtain ⟨z1,z2⟩:=qW g nx.num (z:=(T e).zero) h1 cn (arr:=madeCells (T e).zero.cells (cn*(T e).size)) (fun i hi=>uf _ _ (by omega) i (by rw [← hzs];exact hi));obtain ⟨g',hp',st,hv⟩:=row_step (T:=T) (w0:=w0) (ng:=ng) g1 g2 (iR w (.cells (madeCells (T e).zero.cells (cn*(T e).size)) e)) (heap_alloc_new w _) (fun b hb=>heap_alloc_old w _ b hb) z1
  (m:=cn*(T e).size) (sz:=(T e).size) (n:=ln) (c:=cn) (cap:=some cn) (by rw [size_madeCells];exact Nat.le_refl _) (tH Nz (by rw [z2,hzs];omega)) (by omega) (by simp only [maxL];omega) (fun k hk=>by simpa using hk) hpos' (by rw [size_madeCells];exact Nat.le_refl _)
 exact ⟨_,_,g',hp',.inl (by simp [execOp,ho,hvl,hvc,hrun]),st,hv⟩
def uT (place:Nat→Option (Nat×Nat)) (n:Nat):Prop:=∀ i o z,place i=some (o,z)→o+z≤n
theorem je {place pl':Nat→Option (Nat×Nat)} {sz:Nat} (hin:uT place sz) (hpl:∀ i p,place i=some p→pl' i=some p) {K:Tr V→R} {r:R} (hr:∀ n,R.bad n≠r):∀ {ps:List (Nat×Operand)} {vs:List V} {cs:Tr V},
  tu ps place vs cs K=r →
  ∃ cs',K cs'=r∧((∀ j v,(bOf j).get cs=some v→j<sz)→∀ j v,(bOf j).get cs'=some v→j<sz)∧∀ (g:Gh) n (ρ:Operand→Value) arr,RVL g n vs (ps.map fun p=>ρ p.2)→arr.size=sz→CR g n cs arr →
    ∃ arr',Instr.fill pl' arr (ps.map fun p=>(p.1,ρ p.2))=some arr'∧arr'.size=sz∧CR g n cs' arr'
 | [],vs,cs,h=>by
   cases vs with
   | nil=>exact ⟨cs,h,fun hm=>hm,fun g n ρ arr hv ha hc=>⟨arr,rfl,ha,hc⟩⟩
   | cons v vs=>exact absurd h (hr _)
 | p::ps,vs,cs,h=>by
   obtain ⟨pl,k1,k2⟩:=eF h (hr _);obtain ⟨v,vs',rfl,k3⟩:=ND k2 (hr _);obtain ⟨b,k4⟩:=aG k3 (hr _);obtain ⟨hlen,h1⟩:=aB b;rw [dS] at k4;obtain ⟨off,z⟩:=pl;have hfit:=hin _ _ _ k1;have hlen':(cellsOf v).length=z:=beq_iff.1 hlen;obtain ⟨cs',f1,f2,f3⟩:=je hin hpl hr k4;refine ⟨cs',f1,fun hm=>f2 (tH hm (by simp only;omega)),fun g n ρ arr hv ha hc=>?_⟩;obtain ⟨u,us,e1,hu,hus⟩:=hv.inv;simp only [List.map_cons,List.cons.injEq] at e1;obtain ⟨e1,e2⟩:=e1;rw [← e1] at hu;rw [← e2] at hus;obtain ⟨q1,q2⟩:=hu.cells h1;have hcs:(ρ p.2).cells.toList.length=(cellsOf v).length:=(by simpa using q1);have hpf:off+(ρ p.2).cells.toList.length≤arr.size:=(by omega);obtain ⟨arr',g1,g2,g3⟩:=f3 g n ρ (patch arr off (ρ p.2).cells.toList) hus (by rw [size_patch hpf];exact ha)
    (hc.put hcs (fun i c u hc hu=>q2 i c u hc (by simpa using hu)) hpf)
   refine ⟨arr',?_,g2,g3⟩;rw [List.map_cons,Abs.QG pl' arr p.1 off z (ρ p.2) _ (hpl _ _ k1) (by rw [← hlen'];exact q1) (by omega)];exact g1
theorem yH {all:Bool} {m:Nat} {te:TE} {K:Tr V→R} {r:R} (h:yI all m te K=r) (hr:∀ n,R.bad n≠r) :
  ∃ cs,K cs=r∧(∀ (g:Gh) n (arr:Array Value),(∀ i,i<m*te.zero.cells.size→arr[i]?=te.zero.cells[i % te.zero.cells.size]?)→CR g n cs arr)∧(∀ j v,(bOf j).get cs=some v→j<m*te.zero.cells.size):=by
 unfold yI at h;rw [aQ] at h;split at h
 ·exact ⟨_,h,fun g n arr _ => .lf,fun j v hv=>by rw [B.dO] at hv;cases hv⟩
 ·obtain ⟨h1,h2⟩:=aG h (hr _);rw [sQ,dS] at h2;refine ⟨_,h2,fun g n arr ha=>(qW g n h1 m ha).1,tH Nz ?_⟩;rw [Nat.zero_add];exact Nat.le_of_eq (qW (fun _=>⟨0,0,0⟩) 0 h1 m (arr:=madeCells te.zero.cells (m*te.zero.cells.size)) (fun i hi=>uf _ _ (Nat.pos_of_ne_zero fun e=>by rw [e,Nat.mul_zero] at hi;omega) i hi)).2
theorem jY (ps:Array (Nat×Operand)) (ρ:Operand→Value):(ps.map fun p=>(p.1,ρ p.2)).toList=ps.toList.map fun p=>(p.1,ρ p.2):=by simp
theorem Step.idle {g:Gh} {hp:B→Option Obj} {t:Tr Obj} {nx:B} {w w':World} (h:HR T w0 ng g hp nx w) (hs:Sub t hp) (hl:Like ng w w') (hold:∀ b,b<w.heap.size→w'.heap[b]?=w.heap[b]?):Step T w0 ng g hp t nx w g hp t nx w':=
 ⟨.refl _ _,Nat.le_refl _,⟨hl.os.trans h.os,hl.tape.trans h.tape,hl.output.trans h.output,Nat.le_trans h.size hl.size,fun b hb=>(hold b (Nat.lt_of_lt_of_le hb h.size)).trans (h.old b hb),
  fun id o ho=>⟨(h.obj id o ho).1,(h.obj id o ho).2.mono (.refl _ _) (Nat.le_refl _) (h.obj id o ho).1 (hold _ (h.obj id o ho).2.blk)⟩,h.sep,h.new,h.glob,h.ngx⟩,hs,fun _ _ _=>rfl,fun _ _ h=>h,hl.size,hl.dr,fun b hb _=>hold b hb,fun id o h1 h2 => .inr ⟨id,o,h1,h2,rfl⟩,fun id o h1 h2=>absurd (h.obj id o h1).1 (Nat.not_lt.2 h2)⟩
theorem zW (hT:TOK P T) {o:Oper} {t len:Nat} {ps:Array (Nat×Operand)} (ho:o.op = .buildSlice t len ps):HOK P T w0 ng o (oU t len ps.toList):=by
 intro call _ vals hh nx K r hr h;obtain ⟨e,he,k1⟩:=eF h (hr _);obtain ⟨b1,k2⟩:=aG k1 (hr _);obtain ⟨hkn,b2⟩:=aB b1;obtain ⟨hpos,hbig⟩:=aB b2;have hpos':=aN.1 hpos;have hbig':len*(T e).size≤16777216:=aY.1 hbig;have hu:=hT.slc (jF he);obtain ⟨d,i,hf⟩:=hT.facts (Abs.TE.bg hkn);have hzs:(T e).zero.cells.size=(T e).size:=hf.kQ;rw [iU] at k2;split at k2
 ·rename_i hl;subst hl;cases hps:ps.toList with
  | cons p q=>rw [hps] at k2;exact absurd k2 (hr _)
  | nil=>
    rw [hps] at k2;have hp0:ps=#[]:=Array.toList_eq_nil_iff.1 hps;subst hp0;refine ⟨_,_,_,k2,.of_run fun g hp ρ w g1 g2 g3=>?_⟩;have hrun:(execOp ρ o).run P w = .ok (.value (.slice (some ⟨w.heap.size,0,none⟩) 0 0)) (w.alloc (.cells #[] e)):=by
     simp [execOp,ho,Instr.buildSlice,run_underlying hu,hf.sizeOf,Go.newRow,Instr.fill,Array.range_zero']
    exact ⟨_,_,_,_,.inl hrun,.idle g1 g2 (iR w _) (fun b hb=>heap_alloc_old w _ b hb),.gq _⟩
 ·rename_i hl;obtain ⟨cs0,k3,z1,z2⟩:=yH k2 hr;have hlen0:0<len:=Nat.pos_of_ne_zero hl;have hne:len*(T e).size≠0:=by have:=Nat.mul_pos hlen0 hpos';omega
  have hin:uT (fun i=>aJ (Nat.blt i len) (some (Nat.mul i (T e).size,(T e).size)) none) (len*(T e).size):=fun i o z h=>by
   simp only [aQ] at h;split at h
   ·rename_i hi;simp at h;obtain ⟨rfl,rfl⟩:=h;have:=Nat.mul_le_mul_right (T e).size (show i+1≤len from aN.1 hi);rw [Nat.succ_mul] at this;exact this
   ·cases h
  have hpl:∀ i p,(fun i=>aJ (Nat.blt i len) (some (Nat.mul i (T e).size,(T e).size)) none) i=some p→(fun i=>some (i*(T e).size,(T e).size)) i=some p:=fun i p h=>by
   simp only [aQ] at h;split at h
   ·exact h
   ·cases h
  have run:∀ (ρ:Operand→Value) (w:World) arr',Instr.fill (fun i=>some (i*(T e).size,(T e).size)) (madeCells (T e).zero.cells (len*(T e).size)) (ps.toList.map fun p=>(p.1,ρ p.2))=some arr' →
    (execOp ρ o).run P w = .ok (.value (.slice (some ⟨w.heap.size,0,none⟩) len len)) (w.alloc (.cells arr' e)):=fun ρ w arr' hf'=>by
   have hbig2:¬ (16777216<len*(T e).size):=(by omega);have hz:(zeroValue e).run P w = .ok (T e).zero w:=(by simp [zeroValue,typeInfo,hf.info,hf.zero]);have hf2:Instr.fill (fun i=>some (i*(T e).size,(T e).size)) ((Array.range (len*(T e).size)).map (fun q=>(T e).zero.cells[q % (T e).zero.cells.size]!)) (ps.map fun (p:Nat×Operand)=>(p.1,ρ p.2)).toList=some arr':=by
    rw [jY];exact hf'
   simp [execOp,ho,Instr.buildSlice,run_underlying hu,hf.sizeOf,Go.newRow,hbig2,hne,hz];have f1'':=hf2;simp only [Array.toList_map] at f1'';simp [f1'']
  obtain ⟨csF,k5,k6,k7⟩:=je hin hpl hr k3;simp only [aI,gy] at k5;refine ⟨_,_,_,k5,.of_run fun g hp ρ w g1 g2 g3=>?_⟩;obtain ⟨arr',f1,f2,f3⟩:=k7 g nx.num ρ (madeCells (T e).zero.cells (len*(T e).size)) (by simpa [ho,Op.operands,Function.comp_def] using g3) (size_madeCells _ _) (z1 g nx.num _ (fun i hi=>uf _ _ (by omega) i (by rw [← hzs];exact hi)));have f4:=k6 (by rw [← hzs];exact z2);obtain ⟨g',hp',st,hv⟩:=row_step (T:=T) (w0:=w0) (ng:=ng) g1 g2 (iR w (.cells arr' e)) (heap_alloc_new w _) (fun b hb=>heap_alloc_old w _ b hb) f3
   (m:=len*(T e).size) (sz:=(T e).size) (n:=len) (c:=len) (cap:=some len) (by omega) f4 (Nat.le_refl _) (by simp only [maxL];have:=Nat.le_mul_of_pos_right len hpos';omega) (fun k hk=>by simpa using hk) hpos' (by omega)
  exact ⟨_,_,g',hp',.inl (run ρ w arr' f1),st,hv⟩
theorem Aq {o:Oper} {t:Nat} {ps:Array (Nat×Operand)} (ho:o.op = .build t ps) {d:TypeDesc} {inf:TypeInfo} (hf:TFacts P t (T t) d inf) {place pl':Nat→Option (Nat×Nat)} (hin:uT place (T t).size) (hpl:∀ i p,place i=some p→pl' i=some p)
  (hbt:∀ parts,P.built t parts=Instr.fill pl' (T t).zero.cells parts) {vals:List V} {hh:Tr Obj} {nx:B} {K:KV} {r:R} (hr:∀ n,R.bad n≠r) {all:Bool}
  (k2:yI all 1 (T t) (fun cs=>tu ps.toList place vals cs fun cs=>rM (T t).size cs 0 (fun vs=>K (.agg vs) hh nx) (.bad 70))=r):∃ v,K v hh nx=r∧QT P T w0 ng o vals hh nx v:=by
 obtain ⟨cs0,k3,z1,z2⟩:=yH k2 hr;obtain ⟨csF,k4,_,k5⟩:=je hin hpl hr k3;obtain ⟨vs,k6,k7⟩:=jJ k4 (hr _);obtain ⟨v1,v2⟩:=dW k6;refine ⟨_,k7,fun g hp ρ w g1 g2 g3=>?_⟩;obtain ⟨arr',f1,f2,f3⟩:=k5 g nx.num ρ (T t).zero.cells (by simpa [ho,Op.operands,Function.comp_def] using g3) hf.kQ (z1 g nx.num _ (fun i hi=>by rw [Nat.mod_eq_of_lt (by omega)]));have hb:P.built t (ps.map fun (p:Nat×Operand)=>(p.1,ρ p.2)).toList=some arr':=by
  rw [hbt,jY];exact f1
 have hcell:∀ i,i<arr'.size→∃ c u,vs[i]?=some c∧arr'[i]?=some u∧RV g nx.num c u∧u.oneCell'=true:=fun i hi=>by
  have hi':i<vs.length:=by omega
  have e:=v2 i (by omega);rw [Nat.zero_add,List.getElem?_eq_getElem hi'] at e;obtain ⟨u,e1,e2,e3⟩:=f3 i _ e;exact ⟨_,u,List.getElem?_eq_getElem hi',e1,e2,e3⟩
 refine ⟨.agg arr',by simp [execOp,ho,run_build (P:=P) w t _ arr' hb],.agg _ _ (by omega) (fun i c u hc hu=>?_) (fun i u hu=>?_)⟩
 ·obtain ⟨c',u',e1,e2,e3,_⟩:=hcell i (Array.getElem?_eq_some_iff.1 hu).1;rw [hc] at e1;rw [hu] at e2;simp at e1 e2;subst e1;subst e2;exact e3
 ·obtain ⟨c',u',e1,e2,_,e3⟩:=hcell i (Array.getElem?_eq_some_iff.1 hu).1;rw [hu] at e2;simp at e2;subst e2;exact e3
theorem ZJ {k:TK} {n m:Nat} {K:(Nat→Option (Nat×Nat))→Bool→R} {e r:R} (h:aiP k T n m K e=r) (he:e≠r) :
  (∃ fs,k = .agg fs∧List.all fs (Og n)=true∧K (placeOf fs) (Nat.beq m fs.length)=r) ∨
  (∃ n' e',k = .arr n' e'∧Abs.TE.known (T e')=true∧Nat.beq (Nat.mul n' (T e').size) n=true∧K (fun i=>aJ (Nat.blt i n') (some (Nat.mul i (T e').size,(T e').size)) none) (Nat.beq m n')=r):=by
 cases k with
 | agg fs=>obtain ⟨h1,h2⟩:=aG h he;exact .inl ⟨fs,rfl,h1,h2⟩
 | arr n' e'=>obtain ⟨h1,h2⟩:=aG h he;obtain ⟨h3,h4⟩:=aB h1;exact .inr ⟨n',e',rfl,h3,h4,h2⟩
 | _=>exact absurd h he
theorem Dw (hT:TOK P T) {o:Oper} {t:Nat} {ps:Array (Nat×Operand)} (ho:o.op = .build t ps):HQ P T w0 ng o (UF t ps.toList):=by
 intro call _ vals hh nx K r hr h;rcases ZJ h (hr _) with ⟨fs,hk,hin0,k2⟩ | ⟨n',e',hk,hke,hsz,k2⟩
 ·obtain ⟨d,inf,hf⟩:=hT.facts (t:=t) (by rw [hk];intro e;cases e);obtain ⟨fields,rfl,hfs,hall⟩:∃ fields,d = .struct fields∧fs=fields.toList.map (fun f=>(f.offset,P.cellsOf f.type,Abs.kP P f.type))∧∀ f∈fields.toList,(P.info? f.type).isSome=true:=by
   have hk':=hf.k;rw [hk] at hk';cases d
   case struct fs'=>
    simp only [Abs.kOf] at hk';split at hk'
    ·rename_i hall;simp at hk';exact ⟨fs',rfl,hk',fun f hf=>((Bool.and_eq_true _ _).mp (List.all_eq_true.1 hall f hf)).1⟩
    ·cases hk'
   case array n e=>(simp only [Abs.kOf] at hk';split at hk'<;>cases hk')
   all_goals (simp [Abs.kOf] at hk')
  have hplaces:∀ (fs:List Field),(∀ f∈fs,(P.info? f.type).isSome=true)→fs.mapM (fun f=>(P.info? f.type).map fun i=>(f.offset,i.size))=some (fs.map fun f=>(f.offset,P.cellsOf f.type)):=by
   intro fs
   induction fs with
   | nil=>intro _;rfl
   | cons f fs ih=>
     intro hs;have h1:=hs f (by simp);obtain ⟨i,hi⟩:=Option.isSome_iff_exists.1 h1;simp [List.mapM_cons,hi,ih (fun g hg=>hs g (by simp [hg])),Program.cellsOf]
  have hin:uT (placeOf fs) (T t).size:=fun i o z h=>by
   unfold placeOf at h;split at h
   ·rename_i x1 x2 x3 e;simp at h;obtain ⟨rfl,rfl⟩:=h;have:=List.all_eq_true.1 hin0 _ (List.mem_of_getElem? e);exact aY.1 this
   ·cases h
  have hpl:∀ i p,placeOf fs i=some p→(fields.toList.map fun f=>(f.offset,P.cellsOf f.type)).toArray[i]?=some p:=fun i p h=>by
   unfold placeOf at h;split at h
   ·rename_i x1 x2 x3 e;simp at h;subst h;rw [hfs] at e;simp at e;obtain ⟨f,e1,e2,e3,_⟩:=e;simp [e1,e2,e3]
   ·cases h
  exact Aq ho hf hin hpl (fun parts=>by
   unfold Program.built;rw [hf.info,hf.und]
   simp only [hf.zero,hplaces _ hall]) hr k2
 ·obtain ⟨d,inf,hf⟩:=hT.facts (t:=t) (by rw [hk];intro e;cases e);obtain ⟨de,ie,he⟩:=hT.facts (t:=e') (Abs.TE.bg hke);have hd:d = .array n' e':=by
   have hk':=hf.k;rw [hk] at hk';cases d
   case struct fs'=>(simp only [Abs.kOf] at hk';split at hk'<;>cases hk')
   case array n e=>(simp only [Abs.kOf] at hk';split at hk'<;>cases hk';rfl)
   all_goals (simp [Abs.kOf] at hk')
  subst hd;refine Aq ho hf (pl':=fun i=>some (i*ie.size,ie.size)) (fun i o z h=>?_) (fun i p h=>?_) (fun parts=>?_) hr k2
  ·simp only [aQ] at h;split at h
   ·rename_i hi;simp at h;obtain ⟨rfl,rfl⟩:=h;have:=Nat.mul_le_mul_right (T e').size (show i+1≤n' from aN.1 hi);rw [Nat.succ_mul] at this;have:=beq_iff.1 hsz;show i*(T e').size+(T e').size≤(T t).size;have h2:n'*(T e').size=(T t).size:=this;omega
   ·cases h
  ·simp only [aQ] at h;split at h
   ·rw [he.size];exact h
   ·cases h
  ·unfold Program.built;rw [hf.info,hf.und];simp only [hf.zero,he.info]
theorem RV.sG {g:Gh} {n:Nat} {id:B} {sz off len:Nat} {cap:Option Nat} {u:Value} (h:RV g n (.sl id sz off len cap) u):∃ a c,u = .slice a len c∧id.num<n∧len≤c∧c≤maxL∧(∀ k,cap=some k→c=k)∧0<sz∧off+c*sz≤(g id).n ∧
  (0<c→a=some ⟨(g id).b,(g id).o+off,none⟩):=by
 cases h;exact ⟨_,_,rfl,by assumption,by assumption,by assumption,by assumption,by assumption,by assumption,by assumption⟩
theorem oJ {sz:Nat} {v:V} {t:Tr Obj} {K:Nat→List V→R} {e r:R} (h:sF sz v t K e=r) (he:e≠r) :
  ∃ m ys,K m ys=r∧ys.length=m*sz∧∀ g hp nx w u,HR T w0 ng g hp nx w→Sub t hp→RV g nx.num v u→∃ (ax:Option Addr) (cx:Nat) (news:List Value),u = .slice ax m cx∧m≤cx∧news.length=m*sz ∧
    (∀ (i:Nat) c x,ys[i]?=some c→news[i]?=some x→RV g nx.num c x∧x.oneCell'=true)∧(0<m→∃ ad,ax=some ad∧∀ j x,news[j]?=some x→w.cell? (ad.add j)=some x):=by
 rcases ji h with ⟨id,sz',off,len,cap,rfl,k1⟩ | ⟨_,k1⟩
 ·obtain ⟨ro,s0,hi,cs,hg,k2⟩:=fK k1 he;obtain ⟨hsz,k3⟩:=aG k2 he;obtain ⟨ys,hy,k4⟩:=jJ k3 he;have hsz':=beq_iff.1 hsz;subst hsz';have hl:ys.length=len*sz:=(dW hy).1;refine ⟨len,ys,k4,hl,fun g hp nx w u hr hs hu=>?_⟩;obtain ⟨f,hf1,hf2⟩:=rQ hr hs hg hy;obtain ⟨a,c,rfl,h1,h2,h3,h4,h5,h6,h7⟩:=hu.sG;refine ⟨a,c,(List.range (len*sz)).map f,rfl,h2,by simp,fun i x y hx hy=>?_,fun h0=>⟨_,h7 (by omega),fun j x hx=>?_⟩⟩
  ·have hi:i<len*sz:=(by have:=(List.getElem?_eq_some_iff.1 hy).1;simpa using this);simp [hi] at hy;subst hy;exact hf2 i x hx
  ·have hi:j<len*sz:=(by have:=(List.getElem?_eq_some_iff.1 hx).1;simpa using this);simp [hi] at hx;subst hx;rw [Addr.add_lit];exact hf1 j hi
 ·obtain ⟨hv,k2⟩:=iI k1 he;refine ⟨0,[],k2,by simp,fun g hp nx w u hr hs hu=>?_⟩;rcases hv with rfl | rfl<;>cases hu<;>exact ⟨_,_,[],rfl,Nat.le_refl _,by simp,fun i c x hc=>by simp at hc,fun h0=>absurd h0 (Nat.lt_irrefl 0)⟩
theorem xG (w:World) (t ty e:TypeId) (i:TypeInfo) (ht:P.underlying t=some (.slice e)) (hi:P.info? e=some i) (a0:Option Addr) (n cap:Nat) (hn:n≤cap) (cx:Nat) (ax:Option Addr) :
  (Builtin.append_ #[t,t] ty #[.slice a0 n cap,.slice ax 0 cx]).run P w = .ok (.slice a0 n cap) w:=by
 cases ax with
 | none=>cases a0<;>simp [Builtin.append_,run_underlying ht,Go.sizeOf,typeInfo,hi,Builtin.lenOf,hn,Builtin.firstCells,Go.storeCells]
 | some ax=>
   have hf:=run_firstCells_some (P:=P) w i.size 0 ax 0 cx [] (by simp) (by simp);cases a0<;>simp [Builtin.append_,run_underlying ht,Go.sizeOf,typeInfo,hi,Builtin.lenOf,hn,hf,Go.storeCells]
theorem wQ {g:Gh} {n:Nat} {cs0:Tr V} {ys:List V} {news:List Value} {arr:Array Value} {base N:Nat} (hold:∀ j v,(bOf j).get cs0=some v→j<N∧∃ u,arr[base+j]?=some u∧RV g n v u∧u.oneCell'=true)
  (hl:news.length=ys.length) (hnew:∀ i,i<news.length→arr[base+N+i]?=news[i]?) (hr:∀ (i:Nat) c x,ys[i]?=some c→news[i]?=some x→RV g n c x∧x.oneCell'=true) :
  ∀ j v,(bOf j).get (fB ys cs0 N)=some v→j<N+ys.length∧∃ u,arr[base+j]?=some u∧RV g n v u∧u.oneCell'=true:=fun j v hv=>by
 rw [bY] at hv;split at hv
 ·rename_i hj;have hi:j-N<news.length:=by omega
  refine ⟨hj.2,news[j-N],?_,hr _ v _ hv (List.getElem?_eq_getElem hi)⟩;rw [show base+j=base+N+(j-N) by omega,hnew _ hi];exact List.getElem?_eq_getElem hi
 ·obtain ⟨h1,h2⟩:=hold j v hv;exact ⟨by omega,h2⟩
noncomputable def AP (sz len m:Nat) (cs0:Tr V) (ys:List V) (nx:B) (t1:Tr Obj):Tr Obj:=nx.put t1 (some (.blk false ((len+m)*sz) ((len+m)*sz) (fB ys cs0 (len*sz))))
theorem Ag {sz off len m:Nat} {cs:Tr V} {ys:List V} {t:Tr Obj} {nx:B} {K:KV} {r:R} (h:lD sz off len m cs ys t nx K=r) (hr:∀ n,R.bad n≠r) :
  ∃ cs0,K (.sl nx sz 0 (len+m) none) (AP sz len m cs0 ys nx t) nx.inc=r∧∀ j v,(bOf j).get cs0=some v→j<len*sz∧(bOf (off+j)).get cs=some v:=by
 obtain ⟨old,h1,k1⟩:=jJ h (hr _);rw [dS,dS,aI] at k1;unfold newRow at k1;rw [aI,gy] at k1;refine ⟨_,k1,fun j v hv=>?_⟩;obtain ⟨o1,o2⟩:=dW (n:=len*sz) h1;rw [bY] at hv;split at hv
 ·rename_i hj;rw [Nat.sub_zero] at hv;have hj':j<len*sz:=by rw [← o1];omega
  exact ⟨hj',by rw [o2 j hj'];exact hv⟩
 ·rw [B.dO] at hv;cases hv
theorem rJ {g:Gh} {hp:B→Option Obj} {t:Tr Obj} {nx:B} {w:World} (h:HR T w0 ng g hp nx w) (hs:Sub t hp) {sz len m:Nat} {cs0:Tr V} {ys:List V} {news olds:List Value} {rest:Array Value} {cap':Nat} (e:TypeId)
  (hol:olds.length=len*sz) (hold:∀ j v,(bOf j).get cs0=some v→j<len*sz∧∃ u,olds[j]?=some u∧RV g nx.num v u∧u.oneCell'=true)
  (hl:news.length=m*sz) (hyl:ys.length=m*sz) (hr:∀ (i:Nat) c x,ys[i]?=some c→news[i]?=some x→RV g nx.num c x∧x.oneCell'=true) (h1:len+m≤cap') (h2:cap'≤maxL) (hpos:0<sz) (hrest:(len+m)*sz+rest.size=cap'*sz) :
  ∃ g' hp',Step T w0 ng g hp t nx w g' hp' (AP sz len m cs0 ys nx t) nx.inc (w.drew.alloc (.cells (olds.toArray++news.toArray++rest) e))∧RV g' nx.inc.num (.sl nx sz 0 (len+m) none) (.slice (some ⟨w.heap.size,0,none⟩) (len+m) cap'):=by
 have hmul:(len+m)*sz=len*sz+m*sz:=Nat.add_mul _ _ _
 have hc:=wQ (g:=g) (n:=nx.num) (cs0:=cs0) (ys:=ys) (news:=news) (arr:=olds.toArray++news.toArray++rest) (base:=0) (N:=len*sz) (fun j v hv=>by
   obtain ⟨q1,u,q2,q3⟩:=hold j v hv;refine ⟨q1,u,?_,q3⟩;rw [Nat.zero_add,Array.getElem?_append_left (by simp;omega),Array.getElem?_append_left (by simp;omega)]
   simpa using q2) (by omega) (fun i hi=>by
   rw [Nat.zero_add,Array.getElem?_append_left (by simp;omega),Array.getElem?_append_right (by simp;omega)]
   simp [hol]) hr
 exact row_step (T:=T) (w0:=w0) (ng:=ng) h hs (w':=w.drew.alloc (.cells (olds.toArray++news.toArray++rest) e)) ⟨rfl,rfl,rfl,by simp,fun _=>by simp⟩ (Tb:=e) (cur:=olds.toArray++news.toArray++rest) (heap_alloc_new w.drew _) (fun b hb=>heap_alloc_old w.drew _ b hb)
  (cs:=fB ys cs0 (len*sz)) (m:=(len+m)*sz) (fun j v hv=>by simpa using (hc j v hv).2) (by simp;omega) (fun j v hv=>by have:=(hc j v hv).1;omega) h1 h2 (fun k hk=>by cases hk) hpos (by simp;omega)
theorem zy {g:Gh} {hp:B→Option Obj} {t:Tr Obj} {nx:B} {w:World} (h:HR T w0 ng g hp nx w) (hs:Sub t hp) {id:B} {s0 hi:Nat} {cs:Tr V} (hg:id.get t=some (.blk false s0 hi cs)) {sz off len m:Nat} {cs0:Tr V} {ys:List V} {news:List Value} {c:Nat} {a:Option Addr}
  (hold:∀ j v,(bOf j).get cs0=some v→j<len*sz∧(bOf (off+j)).get cs=some v)
  (hl:news.length=m*sz) (hyl:ys.length=m*sz) (hr:∀ (i:Nat) c x,ys[i]?=some c→news[i]?=some x→RV g nx.num c x∧x.oneCell'=true) (h1:len+m≤c) (h2:c≤maxL) (hpos:0<sz) (hfit:off+c*sz≤(g id).n) (ha:0<c→a=some ⟨(g id).b,(g id).o+off,none⟩)
  {cur:Array Value} {Tb:TypeId} (hw:w.heap[(g id).b]?=some (.cells cur Tb (0,0))) :
  ∃ g' hp',Step T w0 ng g hp t nx w g' hp' (AP sz len m cs0 ys nx (id.put t none)) nx.inc (w.setRow (g id).b (patch cur ((g id).o+off+len*sz) news))∧RV g' nx.inc.num (.sl nx sz 0 (len+m) none) (.slice a (len+m) c):=by
 have hmul:(len+m)*sz=len*sz+m*sz:=Nat.add_mul _ _ _;have hmc:(len+m)*sz≤c*sz:=Nat.mul_le_mul_right sz h1;obtain ⟨cur',Tb',fz,e1,e2,e3,e4,e5⟩:=h.blk hs hg;rw [hw] at e1;simp at e1;obtain ⟨rfl,rfl,rfl⟩:=e1;have hnx:=B.fO nx;have hid:=(h.obj id _ (hs id _ hg)).1;have hpf:(g id).o+off+len*sz+news.length≤cur.size:=by omega
 have hd:=h.drop id
 have hc:=wQ (g:=g) (n:=nx.num) (cs0:=cs0) (ys:=ys) (news:=news) (arr:=patch cur ((g id).o+off+len*sz) news) (base:=(g id).o+off) (N:=len*sz) (fun j v hv=>by
   obtain ⟨q1,q2⟩:=hold j v hv;obtain ⟨_,u,q4,q5⟩:=e5 _ v q2
   exact ⟨q1,u,by rw [patch_out hpf (by omega),Nat.add_assoc];exact q4,q5⟩) (by omega) (fun i hi=>patch_in hpf hi) hr
 have hext:Ext g (dL g nx ⟨(g id).b,(g id).o+off,(g id).n-off⟩) nx.num:=lC (Nat.le_refl _);have hgn:dL g nx ⟨(g id).b,(g id).o+off,(g id).n-off⟩ nx=⟨(g id).b,(g id).o+off,(g id).n-off⟩:=by simp [dL]
 have hadd:=hd.add (w':=w.setRow (g id).b (patch cur ((g id).o+off+len*sz) news)) (lg _ _ _) (pl:=⟨(g id).b,(g id).o+off,(g id).n-off⟩) (o := .blk false ((len+m)*sz) ((len+m)*sz) (fB ys cs0 (len*sz)))
  (fun b hb hne=>setRow_other w _ b _ hne) (h.new id _ (hs id _ hg) rfl) (fun id' o' ho' e=>by
   unfold eX at ho';split at ho'
   ·cases ho'
   ·rename_i hne
    exact h.sep id id' _ o' (hs id _ hg) ho' (Ne.symm hne) rfl e.symm)
  ⟨_,Tb,(0,0),by rw [hgn];exact setRow_heap w _ cur _ Tb (0,0) hw,fun _=>rfl,by rw [hgn,size_patch hpf];simp only;omega,by rw [hgn];simp only;omega,fun j v hv=>by
   obtain ⟨q1,u,q2,q3,q4⟩:=hc j v hv
   exact ⟨by omega,u,by rw [hgn];exact q2,q3.mono hext (by omega),q4⟩⟩ h.ngx
 refine ⟨_,_,⟨hext,by omega,hadd,pX (pX hs _ _) _ _,fun i hi hn=>?_,fun i hi hn=>?_,(lg (ng:=ng) _ _ _).size,(lg (ng:=ng) _ _ _).dr,fun b hb hn=>setRow_other w _ b _ (Ne.symm (hn id _ hg rfl)),fun i o2 h1 h2=>?_,fun i o2 h1 h2=>?_⟩,.sl nx sz 0 (len+m) none a c (by omega) h1 h2 (fun k hk=>by cases hk) hpos (by rw [hgn];simp only;omega) (fun hc0=>by rw [hgn,ha hc0];rfl)⟩
 ·unfold eX;rw [if_neg (fun e=>by rw [e] at hi;omega),if_neg (fun e=>by rw [e,hg] at hn;cases hn)]
 ·unfold AP;rw [B.get_put,if_neg (fun e=>by rw [e] at hi;omega),B.get_put,if_neg (fun e=>by rw [e,hg] at hn;cases hn)];exact hn
 ·unfold AP at h1;rw [B.get_put] at h1;split at h1
  ·rename_i e;subst e;exact .inr ⟨id,_,hg,rfl,by rw [hgn]⟩
  ·rename_i e;rw [B.get_put] at h1;split at h1
   ·cases h1
   ·exact .inr ⟨i,o2,h1,h2,by unfold dL;rw [if_neg e]⟩
 ·unfold eX at h1;split at h1
  ·rename_i e;subst e;exact .inr ⟨id,_,hg,by rw [hgn]⟩
  ·split at h1
   ·cases h1
   ·exact absurd (h.obj i o2 h1).1 (Nat.not_lt.2 h2)
def RunA (P:Program) (t t' ty e:TypeId) (i:TypeInfo) (m:Nat) (news:List Value) (w:World) (xv:Value):Prop:=
 ∀ (a0:Option Addr) (n cap:Nat),n≤cap→∀ (b o:Nat) (cur:Array Value) (T':TypeId),(0<cap→a0=some ⟨b,o,none⟩∧w.heap[b]?=some (.cells cur T' (0,0))∧o+cap*i.size≤cur.size)→n+m≤Go.maxLen→(n+m)*i.bytes≤140737488355328 →
 (n+m≤cap∧(Builtin.append_ #[t,t'] ty #[.slice a0 n cap,xv]).run P w = .ok (.slice a0 (n+m) cap) (w.setRow b (patch cur (o+n*i.size) news))) ∨
 (cap<n+m∧∃ cap' rest,n+m≤cap'∧cap'≤Go.maxLen∧(n+m)*i.size+rest.size=cap'*i.size ∧
  (Builtin.append_ #[t,t'] ty #[.slice a0 n cap,xv]).run P w =
   .ok (.slice (some ⟨w.heap.size,0,none⟩) (n+m) cap') (w.drew.alloc (.cells (((List.range (n*i.size)).map fun q=>(cur[o+q]?).getD undef).toArray++news.toArray++rest) e)))
theorem pF (hT:TOK P T) {o:Oper} {t t' e:Nat} {x y:Operand} (ho:o.op = .call { callee := .builtin .append,args:=#[x,y],argTypes:=#[t,t'] }) {hh:Tr Obj} {nx:B} {K:KV} {r:R} (hr:∀ n,R.bad n≠r)
  {td:TypeDesc} {i:TypeInfo} (hf:TFacts P e (T e) td i) (hpos':0<(T e).size) (hbyt':0<(T e).bytes) {d v:V} {m:Nat} {ys:List V} (hm':0<m) (hyl:ys.length=m*(T e).size)
  (hsrc:∀ g hp nx w u,HR T w0 ng g hp nx w→Sub hh hp→RV g nx.num v u→∃ news:List Value,news.length=m*(T e).size∧(∀ (i:Nat) c x,ys[i]?=some c→news[i]?=some x→RV g nx.num c x∧x.oneCell'=true)∧RunA P t t' o.type e i m news w u)
  (hlim':(lenOf d+m)*(T e).bytes≤140737488355328) (k5:qA (T e).size d m ys hh nx K=r):∃ u t1 nx1,K u t1 nx1=r∧OpT P T w0 ng o [d,v] hh nx u t1 nx1:=by
 have h63:lenOf d+m≤Go.maxLen:=by
  have:=Nat.le_mul_of_pos_right (lenOf d+m) hbyt';simp only [Go.maxLen];omega
 have hcall:∀ (ρ:Operand→Value) w u w',(Builtin.append_ #[t,t'] o.type #[ρ x,ρ y]).run P w = .ok u w'→(execOp ρ o).run P w = .ok (.value u) w':=fun ρ w u w' hrun=>by
  simp [execOp,ho,resolve,invoke,builtin,hrun]
 unfold qA at k5;rcases ji k5 with ⟨id,sz',off,len,cap,rfl,k6⟩ | ⟨_,k6⟩
 ·obtain ⟨hsz,k7⟩:=aG k6 (hr _);have hsz':=beq_iff.1 hsz;subst hsz';obtain ⟨ro,s0,hi,cs,hg,k8⟩:=fK k7 (hr _);have hlim':(len+m)*(T e).bytes≤140737488355328:=hlim';have h63:len+m≤Go.maxLen:=h63;have go:∀ g hp (ρ:Operand→Value) w,HR T w0 ng g hp nx w→Sub hh hp→RVL g nx.num [.sl id (T e).size off len cap,v] (o.op.operands.toList.map ρ)→∃ a c cur Tb fz news,id.num<nx.num∧len≤c∧c≤maxL∧(∀ k,cap=some k→c=k)∧off+c*(T e).size≤(g id).n∧(0<c→a=some ⟨(g id).b,(g id).o+off,none⟩) ∧
    w.heap[(g id).b]?=some (.cells cur Tb fz)∧(ro=false→fz=(0,0))∧(g id).o+(g id).n≤cur.size∧(∀ (j:Nat) v,(bOf j).get cs=some v→j<hi∧∃ u,cur[(g id).o+j]?=some u∧RV g nx.num v u∧u.oneCell'=true) ∧
    news.length=m*(T e).size∧(∀ (i:Nat) c x,ys[i]?=some c→news[i]?=some x→RV g nx.num c x∧x.oneCell'=true) ∧
    ((0<c→fz=(0,0))→(len+m≤c∧(execOp ρ o).run P w = .ok (.value (.slice a (len+m) c)) (w.setRow (g id).b (patch cur ((g id).o+off+len*(T e).size) news))) ∨
      (c<len+m∧∃ cap' rest,len+m≤cap'∧cap'≤maxL∧(len+m)*(T e).size+rest.size=cap'*(T e).size ∧
       (execOp ρ o).run P w = .ok (.value (.slice (some ⟨w.heap.size,0,none⟩) (len+m) cap')) (w.drew.alloc (.cells (((List.range (len*(T e).size)).map fun q=>(cur[(g id).o+off+q]?).getD undef).toArray++news.toArray++rest) e)))):=fun g hp ρ w g1 g2 g3=>by
   obtain ⟨hx,hy⟩:=oK (x:=x) (y:=y) (by simp [ho,Op.operands,Call.operands]) g3;obtain ⟨news,e3,e4,hRun⟩:=hsrc g hp nx w _ g1 g2 hy;obtain ⟨a,c,q0,q1,q2,q3,q4,q5,q6,q7⟩:=hx.sG;obtain ⟨cur,Tb,fz,p1,p2,p3,p4,p5⟩:=g1.blk g2 hg;refine ⟨a,c,cur,Tb,fz,news,q1,q2,q3,q4,q6,q7,p1,p2,p3,p5,e3,e4,fun hfz=>?_⟩;rcases hRun a len c q2 (g id).b ((g id).o+off) cur Tb (fun h0=>⟨q7 h0,by rw [p1,hfz h0],by rw [hf.size];omega⟩) h63 (by rw [hf.bytes];exact hlim') with ⟨h0,hrun⟩ | ⟨h0,cap',rest,h2,h3,h4,hrun⟩
   ·rw [hf.size] at hrun;exact .inl ⟨h0,hcall ρ w _ _ (by rw [q0];exact hrun)⟩
   ·rw [hf.size] at h4 hrun;exact .inr ⟨h0,cap',rest,h2,by simp only [maxL];simp only [Go.maxLen] at h3;omega,h4,hcall ρ w _ _ (by rw [q0];exact hrun)⟩
  have olds:∀ {g:Gh} {cur:Array Value} {cs0:Tr V} {c:Nat},len≤c→(∀ (j:Nat) v,(bOf j).get cs=some v→j<hi∧∃ u,cur[(g id).o+j]?=some u∧RV g nx.num v u∧u.oneCell'=true)→(∀ j v,(bOf j).get cs0=some v→j<len*(T e).size∧(bOf (off+j)).get cs=some v) →
    ∀ j v,(bOf j).get cs0=some v→j<len*(T e).size∧∃ u,((List.range (len*(T e).size)).map fun q=>(cur[(g id).o+off+q]?).getD undef)[j]?=some u∧RV g nx.num v u∧u.oneCell'=true:=fun _ h5 h0 j v hv=>by
   obtain ⟨r1,r2⟩:=h0 j v hv;obtain ⟨_,u,r3,r4⟩:=h5 _ v r2;rw [← Nat.add_assoc] at r3;exact ⟨r1,u,by simp [r1,r3],r4⟩
  cases cap with
  | none=>
    have k9:aJ ro (.bad 58) (id.jv hh none fun t1=>aJ (and (Nat.beq off 0) (Nat.beq hi (Nat.mul len (T e).size)))
     (l9 ys cs (Nat.mul len (T e).size) fun c1=>aT (Nat.add len m) fun n=>newRow (T e).size n none c1 t1 nx K) (lD (T e).size off len m cs ys t1 nx K))=r:=k8
    rw [aQ] at k9;split at k9
    ·exact absurd k9 (hr _)
    ·rename_i hro;have hro:ro=false:=(by simpa using hro);subst hro;rw [B.eu,aQ] at k9;have key:∃ cs0,K (.sl nx (T e).size 0 (len+m) none) (AP (T e).size len m cs0 ys nx (id.put hh none)) nx.inc=r∧((∀ j v,(bOf j).get cs=some v→j<hi)→∀ j v,(bOf j).get cs0=some v→j<len*(T e).size∧(bOf (off+j)).get cs=some v):=by
      split at k9
      ·rename_i hb;obtain ⟨hb1,hb2⟩:=aB hb;have hb1:=beq_iff.1 hb1;have hb2:hi=len*(T e).size:=beq_iff.1 hb2;rw [dS,aI] at k9;unfold newRow at k9;rw [aI,gy] at k9;exact ⟨cs,k9,fun hlt j v hv=>⟨by rw [← hb2];exact hlt j v hv,by rw [hb1,Nat.zero_add];exact hv⟩⟩
      ·obtain ⟨cs0,c1,c2⟩:=Ag k9 hr;exact ⟨cs0,c1,fun _=>c2⟩
     obtain ⟨cs0,k10,hcs0⟩:=key;refine ⟨_,_,_,k10,.of_run fun g hp ρ w g1 g2 g3=>?_⟩;obtain ⟨a,c,cur,Tb,fz,news,q1,q2,q3,q4,q6,q7,p1,p2,p3,p5,e3,e4,hrun⟩:=go g hp ρ w g1 g2 g3;have p2:=p2 rfl;subst p2;have hcs0:=hcs0 (fun j v hv=>(p5 j v hv).1);rcases hrun (fun _=>rfl) with ⟨h0,hrun⟩ | ⟨h0,cap',rest,h2,h3,h4,hrun⟩
     ·obtain ⟨g',hp',st,hv'⟩:=zy (T:=T) (w0:=w0) (ng:=ng) g1 g2 hg hcs0 e3 hyl e4 h0 q3 hpos' q6 q7 p1;exact ⟨_,_,g',hp',.inl hrun,st,hv'⟩
     ·have sd:=Step.drop (T:=T) (w0:=w0) (ng:=ng) g1 g2 hg;obtain ⟨g',hp',st,hv'⟩:=rJ (T:=T) (w0:=w0) (ng:=ng) sd.hr sd.sub (cs0:=cs0) (rest:=rest) (ys:=ys) e (by simp) (olds q2 p5 hcs0) e3 hyl e4 h2 h3 hpos' h4;exact ⟨_,_,g',hp',.inl hrun,sd.trans st,hv'⟩
  | some c0=>
    have k9:aJ (Nat.ble (Nat.add len m) c0)
     (aT (Nat.add off (Nat.mul len (T e).size)) fun o=>oO id o ys hh (fun t'=>aT (Nat.add len m) fun n=>K (.sl id (T e).size off n (some c0)) t' nx) (.bad 56))
     (aJ ro (isZero c0 (lD (T e).size off len m cs ys hh nx K) (.bad 58)) (lD (T e).size off len m cs ys hh nx K))=r:=k8
    rw [aQ] at k9;split at k9
    ·rename_i hle;have hle:len+m≤c0:=aY.1 hle;rw [aI] at k9;obtain ⟨s1,hi1,cs1,hg1,hfit,_,k10⟩:=oN k9 (hr _);rw [hg] at hg1;simp at hg1;obtain ⟨rfl,rfl,rfl,rfl⟩:=hg1;rw [aI] at k10;refine ⟨_,_,_,k10,.of_run fun g hp ρ w g1 g2 g3=>?_⟩;obtain ⟨a,c,cur,Tb,fz,news,q1,q2,q3,q4,q6,q7,p1,p2,p3,p5,e3,e4,hrun⟩:=go g hp ρ w g1 g2 g3;have hcc:=q4 c0 rfl;subst hcc;have p2:=p2 rfl;subst p2;rcases hrun (fun _=>rfl) with ⟨h0,hrun⟩ | ⟨h0,_⟩
     ·obtain ⟨cur',Tb',r1,r2,st⟩:=sZ (T:=T) (w0:=w0) (ng:=ng) g1 g2 hg (off:=off+len*(T e).size) (vs:=ys) (us:=news) (by omega) e4 hfit;rw [p1] at r1;simp at r1;obtain ⟨rfl,rfl⟩:=r1;rw [← Nat.add_assoc] at st;exact ⟨_,_,_,_,.inl hrun,st,.sl id (T e).size off (len+m) (some c) a c q1 h0 q3 (fun k hk=>by simpa using hk) hpos' q6 q7⟩
     ·omega
    ·rename_i hle;have hle:c0<len+m:=by
      rcases Nat.lt_or_ge c0 (len+m) with h | h
      ·exact h
      ·exact absurd (aY.2 h) hle
     have key:lD (T e).size off len m cs ys hh nx K=r∧(ro=false∨c0=0):=by
      rw [aQ] at k9;split at k9
      ·rw [iU] at k9;split at k9
       ·rename_i hz;exact ⟨k9,.inr hz⟩
       ·exact absurd k9 (hr _)
      ·rename_i hro;exact ⟨k9,.inl (by simpa using hro)⟩
     obtain ⟨k10,hro⟩:=key;obtain ⟨cs0,k11,hcs0⟩:=Ag k10 hr;refine ⟨_,_,_,k11,.of_run fun g hp ρ w g1 g2 g3=>?_⟩;obtain ⟨a,c,cur,Tb,fz,news,q1,q2,q3,q4,q6,q7,p1,p2,p3,p5,e3,e4,hrun⟩:=go g hp ρ w g1 g2 g3;have hcc:=q4 c0 rfl;subst hcc;rcases hrun (fun h0=>p2 (hro.resolve_right (by omega))) with ⟨h0,_⟩ | ⟨h0,cap',rest,h2,h3,h4,hrun⟩
     ·omega
     ·obtain ⟨g',hp',st,hv'⟩:=rJ (T:=T) (w0:=w0) (ng:=ng) g1 g2 (cs0:=cs0) (rest:=rest) (ys:=ys) e (by simp) (olds q2 p5 hcs0) e3 hyl e4 h2 h3 hpos' h4;exact ⟨_,_,g',hp',.inl hrun,st,hv'⟩
 ·obtain ⟨hv,k7⟩:=iI k6 (hr _);have hl0:lenOf d=0:=by rcases hv with rfl | rfl<;>rfl
  rw [hl0] at hlim' h63;rw [dS] at k7;unfold newRow at k7;rw [aI,gy] at k7;refine ⟨_,_,_,k7,.of_run fun g hp ρ w g1 g2 g3=>?_⟩;obtain ⟨hx,hy⟩:=oK (x:=x) (y:=y) (by simp [ho,Op.operands,Call.operands]) g3;obtain ⟨news,e3,e4,hRun⟩:=hsrc g hp nx w _ g1 g2 hy;have hx':∃ a0,ρ x = .slice a0 0 0:=by
   generalize ρ x=vx at hx;rcases hv with rfl | rfl<;>cases hx<;>exact ⟨_,rfl⟩
  obtain ⟨a0,hx'⟩:=hx';rcases hRun a0 0 0 (Nat.le_refl _) 0 0 #[] 0 (fun h0=>absurd h0 (Nat.lt_irrefl 0)) h63 (by rw [hf.bytes];exact hlim') with ⟨h0,_⟩ | ⟨_,cap',rest,h2,h3,h4,hrun⟩
  ·omega
  ·rw [hf.size] at h4 hrun;obtain ⟨g',hp',st,hv'⟩:=rJ (T:=T) (w0:=w0) (ng:=ng) g1 g2 (cs0 := .lf) (len:=0) (olds:=(List.range (0*(T e).size)).map fun q=>((#[]:Array Value)[0+q]?).getD undef) (rest:=rest) (ys:=ys) e (by simp) (fun j v hv=>by rw [B.dO] at hv;cases hv) e3 hyl e4 h2 (by simp only [maxL];simp only [Go.maxLen] at h3;omega) hpos' h4;refine ⟨_,_,g',hp',.inl (hcall ρ w _ _ (by rw [hx'];exact hrun)),?_,?_⟩
   ·simpa [AP] using st
   ·simpa using hv'
theorem KO (hT:TOK P T) {o:Oper} {t t':Nat} {x y:Operand} (ho:o.op = .call { callee := .builtin .append,args:=#[x,y],argTypes:=#[t,t'] }):HOK P T w0 ng o (hAppend t t'):=by
 intro call _ vals hh nx K r hr h;obtain ⟨htt,k0⟩:=aG h (hr _);have htt':=beq_iff.1 htt;subst htt';obtain ⟨e,he,k1⟩:=eF k0 (hr _);obtain ⟨b1,k2⟩:=aG k1 (hr _);obtain ⟨hkn,b2⟩:=aB b1;obtain ⟨hpos,hbyt⟩:=aB b2;have hpos':=aN.1 hpos;have hbyt':=aN.1 hbyt;obtain ⟨d,v,rfl,k3⟩:=lq k2 (hr _);obtain ⟨m,ys,k4,hyl,hsrc⟩:=oJ (T:=T) (w0:=w0) (ng:=ng) k3 (hr _);have hu:=hT.slc (jF he);obtain ⟨td,i,hf⟩:=hT.facts (Abs.TE.bg hkn);have hcall:∀ (ρ:Operand→Value) w u w',(Builtin.append_ #[t,t] o.type #[ρ x,ρ y]).run P w = .ok u w'→(execOp ρ o).run P w = .ok (.value u) w':=fun ρ w u w' hrun=>by
  simp [execOp,ho,resolve,invoke,builtin,hrun]
 rw [iU] at k4;split at k4
 ·rename_i hm;subst hm;obtain ⟨md,yd,k5,_,hd⟩:=oJ (T:=T) (w0:=w0) (ng:=ng) k4 (hr _);refine ⟨_,_,_,k5,.quiet fun g hp ρ w g1 g2 g3=>?_⟩;obtain ⟨hx,hy⟩:=oK (x:=x) (y:=y) (by simp [ho,Op.operands,Call.operands]) g3;obtain ⟨ax,cx,_,e1,_⟩:=hsrc g hp nx w _ g1 g2 hy;obtain ⟨a0,c0,_,e2,e3,_⟩:=hd g hp nx w _ g1 g2 hx;refine ⟨ρ x,hcall ρ w _ _ ?_,hx⟩;rw [e1,e2];exact xG w t o.type e i hu hf.info a0 md c0 e3 cx ax
 ·rename_i hm;have hm':0<m:=Nat.pos_of_ne_zero hm;obtain ⟨b3,k5⟩:=aG k4 (hr _);obtain ⟨hlim,h1⟩:=aB b3;refine pF hT ho hr hf hpos' hbyt' hm' hyl (fun g hp nx w u g1 g2 hy=>?_) (aY.1 hlim) k5;obtain ⟨ax,cx,news,e1,e2,e3,e4,e5⟩:=hsrc g hp nx w u g1 g2 hy;refine ⟨news,e3,e4,fun a0 n cap hn b o' cur T' hb h63 hby=>?_⟩;have hone:∀ u∈news,u.oneCell'=true:=fun u hu=>by
   obtain ⟨j,hj⟩:=List.getElem?_of_mem hu;have hjl:j<ys.length:=(by rw [hyl,← e3];exact (List.getElem?_eq_some_iff.1 hj).1);exact (e4 j _ u (List.getElem?_eq_getElem hjl) hj).2
  have:=Abs.yP (P:=P) w t o.type e i (T e).zero hu hf.info hf.zero (by rw [hf.size,hf.kQ]) a0 n cap hn b o' cur T' hb m cx ax news (by rw [hf.size];exact e3) hone e5 h63 hby;rw [if_pos hm'] at this;rw [e1];exact this
theorem D5 {R:Type}:∀ (k n:Nat) (acc:List V) (K:List V→R),∃ l:List V,Ap k n acc K=K (l++acc)∧l.length=k∧∀ i,i<k→l[i]?=some (.int .u8 (.ofNat (n / 2 ^ (8*(k-1-i)) % 256)))
 | 0,n,acc,K=>⟨[],rfl,rfl,fun i hi=>by omega⟩
 | k+1,n,acc,K=>by
   have h0:Ap (k+1) n acc K=Ap k (n >>> 8) (.int .u8 (.ofNat (n % 256))::acc) K:=by
    show aT (Nat.mod n 256) (fun c=>aT (Nat.shiftRight n 8) fun n'=>Ap k n' (.int .u8 (.ofNat c)::acc) K)=_;rw [aI,aI];rfl
   obtain ⟨l,h1,h2,h3⟩:=D5 k (n >>> 8) (.int .u8 (.ofNat (n % 256))::acc) K;refine ⟨l++[.int .u8 (.ofNat (n % 256))],by rw [h0,h1,List.append_assoc];rfl,by simp [h2],fun i hi=>?_⟩;rcases Nat.lt_or_ge i k with h | h
   ·rw [List.getElem?_append_left (by omega),h3 i h,Nat.shiftRight_eq_div_pow,Nat.div_div_eq_div_mul,← Nat.pow_add];rw [show 8+8*(k-1-i)=8*(k+1-1-i) by omega]
   ·have:i=k:=(by omega);subst this;rw [List.getElem?_append_right (by omega),h2];simp
theorem RP (hT:TOK P T) {t t' ty e:Nat} {td:TypeDesc} {i:TypeInfo} (hf:TFacts P e (T e) td i) (hu:P.underlying t=some (.slice e)) (hk:P.underlying t'=some .string) (hsz:(T e).size=1) (s:ByteArray) (hm:0<s.size) (w:World) :
  RunA P t t' ty e i s.size (byteCells s) w (.string s):=fun a0 n cap hn b o cur T' hb h63 hby=>by
 have hi1:i.size=1:=by rw [hf.size,hsz]
 have hone:∀ u∈byteCells s,u.oneCell'=true:=(Src.ofString w hk s).one;by_cases hroom:n+s.size≤cap
 ·left;refine ⟨hroom,?_⟩;obtain ⟨rfl,hh,hs⟩:=hb (by omega);have hl:=byteCells_length s;rw [hi1,Nat.mul_one] at hs;have hst:=run_storeCells_at P b (o+n*i.size) T' (byteCells s) 0 cur w hh (by rw [hi1];omega) hone;simp only [Nat.add_zero] at hst;have hf1:=firstCells_string (P:=P) s w;rw [hi1,Nat.mul_one] at hst;simp [Builtin.append_,run_underlying hu,run_underlying hk,Go.sizeOf,typeInfo,hf.info,hi1,Builtin.lenOf,hroom,hf1,Addr.add_lit,hst,patch]
 ·right;have hcm:grownCap w (n+s.size) cap e≤Go.maxLen:=grownCap_le_maxLen w (n+s.size) cap e h63;refine ⟨by omega,grownCap w (n+s.size) cap e,Builtin.zeroCells (T e).zero.cells (grownCap w (n+s.size) cap e-(n+s.size)),grownCap_ge w (n+s.size) cap e,hcm,?_,?_⟩
  ·have:=grownCap_ge w (n+s.size) cap e;rw [size_zeroCells,hf.kQ,hf.size,← Nat.add_mul];congr 1;omega
  ·have hold:(Builtin.firstCells i.size n (.slice a0 n cap)).run P w.drew = .ok (((List.range (n*i.size)).map fun q=>(cur[o+q]?).getD undef)).toArray w.drew:=by
    rcases Nat.eq_zero_or_pos cap with hc | hc
    ·subst hc;have:n=0:=(by omega);subst this;cases a0 with
     | none=>simp [Builtin.firstCells]
     | some a=>have:=run_firstCells_some (P:=P) w.drew i.size 0 a 0 0 [] (by simp) (by simp);simpa using this
    ·obtain ⟨rfl,hh,hs⟩:=hb hc;have:=Nat.mul_le_mul_right i.size hn;refine run_firstCells_some (P:=P) w.drew i.size n ⟨b,o,none⟩ n cap _ (by simp) fun j v hv=>?_
     simp only [List.getElem?_map,Option.map_eq_some_iff] at hv;obtain ⟨q,hq,rfl⟩:=hv;have hqlt:j<n*i.size:=(by have:=(List.getElem?_eq_some_iff.1 hq).1;simpa using this);have:q=j:=(by have:=(List.getElem?_eq_some_iff.1 hq).2;simp at this;exact this.symm);subst this;have hlt:o+q<cur.size:=(by omega);rw [Addr.add_lit,cell_of_row w.drew b _ cur T' (0,0) (show w.drew.heap[b]?=_ from hh)];simp [hlt]
   have hsrc:Src P i.size t' (.string s) s.size (byteCells s) w:=(by rw [hi1];exact Src.ofString w hk s);have:=run_append_grow_src (P:=P) w t t' ty e i (T e).zero hu hf.info hf.zero a0 n cap _ hold (.string s) s.size (byteCells s) hsrc (by omega) (by simp only [Go.maxLen] at h63;omega) (growslice_fits (by omega) hby);rw [this];congr 3;apply Array.ext';simp
theorem KP (hT:TOK P T) {o:Oper} {t t':Nat} {x y:Operand} (ho:o.op = .call { callee := .builtin .append,args:=#[x,y],argTypes:=#[t,t'] }) (hk:(T t').k = .str):HOK P T w0 ng o (Oc t):=by
 intro call _ vals hh nx K r hr h;obtain ⟨e,he,k1⟩:=eF h (hr _);obtain ⟨b1,k2⟩:=aG k1 (hr _);obtain ⟨hkn,b2⟩:=aB b1;obtain ⟨hsz,hbyt⟩:=aB b2;have hsz':=beq_iff.1 hsz;have hbyt':=aN.1 hbyt;obtain ⟨d,v,rfl,k3⟩:=lq k2 (hr _);obtain ⟨l,n,rfl,k4⟩:=fJ k3 (hr _);have hu:=hT.slc (jF he);have hus:=pV hT hk;obtain ⟨td,i,hf⟩:=hT.facts (Abs.TE.bg hkn);have hi1:i.size=1:=by rw [hf.size,hsz']
 rw [iU] at k4;split at k4
 ·rename_i hm;subst hm;obtain ⟨md,yd,k5,_,hd⟩:=oJ (T:=T) (w0:=w0) (ng:=ng) k4 (hr _);refine ⟨_,_,_,k5,.quiet fun g hp ρ w g1 g2 g3=>?_⟩;obtain ⟨hx,hy⟩:=oK (x:=x) (y:=y) (by simp [ho,Op.operands,Call.operands]) g3;obtain ⟨a0,c0,_,e2,e3,_⟩:=hd g hp nx w _ g1 g2 hx;refine ⟨ρ x,?_,hx⟩;have hy':ρ y = .string ⟨#[]⟩:=by
   generalize ρ y=vy at hy;generalize h0:(0:Nat)=z at hy;cases hy;rename_i s hs;have:s=[]:=List.eq_nil_of_length_eq_zero h0.symm;subst this;rfl
  have hempty:(⟨#[]⟩:ByteArray).size=0:=rfl;cases a0<;>simp [execOp,ho,resolve,invoke,builtin,e2,hy',Builtin.append_,run_underlying hu,run_underlying hus,Go.sizeOf,typeInfo,hf.info,Builtin.lenOf,Builtin.firstCells,hempty,e3,Go.storeCells]
 ·rename_i hm;have hm':0<l:=Nat.pos_of_ne_zero hm;obtain ⟨hlim,k5⟩:=aG k4 (hr _);obtain ⟨ys,k6,k7,k8⟩:=D5 l n [] fun ys=>qA (T e).size d l ys hh nx K
  rw [k6,List.append_nil] at k5;refine pF hT ho hr hf (by omega) hbyt' hm' (by rw [hsz',Nat.mul_one];exact k7) (fun g hp nx w u g1 g2 hy=>?_) (aY.1 hlim) k5;cases hy;rename_i s hs;have hs1:(⟨s.toArray⟩:ByteArray).size=s.length:=by simp [ByteArray.size]
  refine ⟨byteCells ⟨s.toArray⟩,by rw [byteCells_length,hs1,hsz',Nat.mul_one],fun j c x hc hx=>?_,?_⟩
  ·have hj:j<s.length:=(by have:=(List.getElem?_eq_some_iff.1 hc).1;omega);rw [k8 j hj] at hc;cases hc;have hb:s[j]?=some s[j]:=List.getElem?_eq_getElem hj;have:x = .int .u8 (s[j].toNat:Nat):=by
    simp [byteCells,hb] at hx;exact hx.symm
   subst this;rw [GH s j _ hb];exact ⟨.int _ _,rfl⟩
  ·have:=RP hT (ty:=o.type) hf hu hus hsz' ⟨s.toArray⟩ (by rw [hs1];exact hm') w;rw [hs1] at this;exact this
theorem PX {t t' ty e m:Nat} {td:TypeDesc} {i:TypeInfo} {kn kq:IntKind} (hf:TFacts P e (T e) td i) (hu:P.underlying t=some (.slice e)) (hk:P.underlying t'=some (.int kn)) (hpos:0<(T e).size) (h1:∀ u∈(Builtin.zeroCells (T e).zero.cells m).toList,u.oneCell'=true)
  (hm:0<m) (h48:m*(T e).bytes≤140737488355328) (hm63:m<16777216) (w:World):RunA P t t' ty e i m (Builtin.zeroCells (T e).zero.cells m).toList w (.int kq m):=fun a0 n cap hn b o cur T' hb h63 hby=>by
 have hi1:i.size=(T e).size:=hf.size;have hwr:IntKind.i64.wrap (m:Int)=m:=by rw [IntKind.wrap_i64];omega
 have hneg:¬ ((m:Int)<0):=by omega
 have hzl:(Builtin.zeroCells (T e).zero.cells m).size=m*(T e).size:=by rw [size_zeroCells,hf.kQ]
 by_cases hroom:n+m≤cap
 ·left;refine ⟨hroom,?_⟩;obtain ⟨rfl,hh,hs⟩:=hb (by omega);have hfit:o+n*i.size+0+(Builtin.zeroCells (T e).zero.cells m).toList.length≤cur.size:=by
   have:=Nat.mul_le_mul_right i.size hroom;rw [Nat.add_mul] at this;rw [Array.length_toList,hzl,← hi1];omega
  have hst:=run_storeCells_at P b (o+n*i.size) T' _ 0 cur w hh hfit h1;simp only [Nat.add_zero] at hst;have h48i:¬ (281474976710656<(m:Int)*(i.bytes:Int)):=by
   rw [← Int.natCast_mul,hf.bytes];omega
  have hns:¬ (m*i.size=0):=Nat.mul_ne_zero (by omega) (by omega);simp [Builtin.append_,run_underlying hu,run_underlying hk,Go.sizeOf,typeInfo,zeroValue,hf.info,hf.zero,Go.asInt,Go.asIntOf,hwr,hneg,hns,h48i,hroom,Addr.add_lit,hst,patch]
 ·right;have hcm:grownCap w (n+m) cap e≤Go.maxLen:=grownCap_le_maxLen w (n+m) cap e h63;refine ⟨by omega,grownCap w (n+m) cap e,Builtin.zeroCells (T e).zero.cells (grownCap w (n+m) cap e-(n+m)),grownCap_ge w (n+m) cap e,hcm,?_,?_⟩
  ·have:=grownCap_ge w (n+m) cap e;rw [size_zeroCells,hf.kQ,hf.size,← Nat.add_mul];congr 1;omega
  ·have hold:(Builtin.firstCells i.size n (.slice a0 n cap)).run P w.drew = .ok (((List.range (n*i.size)).map fun q=>(cur[o+q]?).getD undef)).toArray w.drew:=by
    rcases Nat.eq_zero_or_pos cap with hc | hc
    ·subst hc;have:n=0:=(by omega);subst this;cases a0 with
     | none=>simp [Builtin.firstCells]
     | some a=>have:=run_firstCells_some (P:=P) w.drew i.size 0 a 0 0 [] (by simp) (by simp);simpa using this
    ·obtain ⟨rfl,hh,hs⟩:=hb hc;have:=Nat.mul_le_mul_right i.size hn;refine run_firstCells_some (P:=P) w.drew i.size n ⟨b,o,none⟩ n cap _ (by simp) fun j v hv=>?_
     simp only [List.getElem?_map,Option.map_eq_some_iff] at hv;obtain ⟨q,hq,rfl⟩:=hv;have hqlt:j<n*i.size:=(by have:=(List.getElem?_eq_some_iff.1 hq).1;simpa using this);have:q=j:=(by have:=(List.getElem?_eq_some_iff.1 hq).2;simp at this;exact this.symm);subst this;have hlt:o+q<cur.size:=(by omega);rw [Addr.add_lit,cell_of_row w.drew b _ cur T' (0,0) (show w.drew.heap[b]?=_ from hh)];simp [hlt]
   have:=Lib.run_append_grow_zeros (P:=P) w t t' ty e i (T e).zero kq kn hu hk hf.info hf.zero a0 n cap _ hold m hm (by omega) (by omega) (by simp only [Go.maxLen] at h63;omega) (by rw [hf.bytes];omega) (growslice_fits (by omega) hby);rw [this]
theorem UG (hT:TOK P T) {o:Oper} {t t':Nat} {kn:IntKind} {x y:Operand} (ho:o.op = .call { callee := .builtin .append,args:=#[x,y],argTypes:=#[t,t'] }) (hk:(T t').k = .int kn):HOK P T w0 ng o (aaB t):=by
 intro call _ vals hh nx K r hr h;obtain ⟨e,he,k1⟩:=eF h (hr _);obtain ⟨b1,k2⟩:=aG k1 (hr _);obtain ⟨hkn,b2⟩:=aB b1;obtain ⟨hpos,b3⟩:=aB b2;obtain ⟨hbyt,h1⟩:=aB b3;have hpos':=aN.1 hpos;have hbyt':=aN.1 hbyt;obtain ⟨d,v,rfl,k3⟩:=lq k2 (hr _);obtain ⟨kq,n,rfl,k4⟩:=dH k3 (hr _);obtain ⟨m,rfl,hm0,k5⟩:=iY k4 (hr _);have hu:=hT.slc (jF he);have hui:=hT.int hk;obtain ⟨td,i,hf⟩:=hT.facts (Abs.TE.bg hkn);rw [iU] at k5;split at k5
 ·exact absurd k5 (hr _)
 ·rename_i hm;have hm':0<m:=Nat.pos_of_ne_zero hm;obtain ⟨hlim,k6⟩:=aG k5 (hr _);obtain ⟨hlim,h48⟩:=aB hlim;rw [sQ] at k6;have hz:=(qL (fun _=>⟨0,0,0⟩) 0 (T e).zero).cells h1;have hzs:(cellsOf (cV (T e).zero)).length=(T e).size:=by rw [← hz.1,hf.kQ]
  have hget:∀ (g:Gh) (n:Nat) (j:Nat) c x,(rep m (cellsOf (cV (T e).zero)))[j]?=some c→(Builtin.zeroCells (T e).zero.cells m).toList[j]?=some x→RV g n c x∧x.oneCell'=true:=fun g n j c x hc hx=>by
   obtain ⟨q1,q2⟩:=(qL g n (T e).zero).cells h1;have hj:j<m*(cellsOf (cV (T e).zero)).length:=(by have:=(List.getElem?_eq_some_iff.1 hc).1;rw [iC] at this;exact this);rw [yh m _ j (by omega) hj] at hc;have hmod:j % (T e).zero.cells.size<(T e).zero.cells.size:=Nat.mod_lt _ (by rw [q1];omega);have hx':x=(T e).zero.cells[j % (T e).zero.cells.size]:=by
    have hj2:j<m*(T e).zero.cells.size:=(by rw [q1];exact hj);simp only [Builtin.zeroCells,Array.toList_map,Array.toList_range,List.getElem?_map,List.getElem?_range hj2,Option.map_some,Option.some.injEq] at hx;rw [← hx];exact getElem!_pos (T e).zero.cells _ hmod
   subst hx';rw [← q1] at hc;exact q2 _ c _ hc (Array.getElem?_eq_getElem hmod)
  refine pF hT ho hr hf hpos' hbyt' hm' (by rw [iC,hzs]) (fun g hp nx w u g1 g2 hy=>?_) (aY.1 hlim) k6;have hlen:(Builtin.zeroCells (T e).zero.cells m).toList.length=m*(T e).size:=by rw [Array.length_toList,size_zeroCells,hf.kQ]
  cases hy;refine ⟨(Builtin.zeroCells (T e).zero.cells m).toList,hlen,fun j c x hc hx=>hget _ _ j c x hc hx,?_⟩;refine PX (kn:=kn) (kq:=kq) hf hu hui hpos' (fun u hu=>?_) hm' (aY.1 h48) hm0 w;obtain ⟨j,hj⟩:=List.getElem?_of_mem hu;have hjl:j<(rep m (cellsOf (cV (T e).zero))).length:=by rw [iC,hzs,← hlen];exact (List.getElem?_eq_some_iff.1 hj).1
  exact (hget (fun _=>⟨0,0,0⟩) 0 j _ u (List.getElem?_eq_getElem hjl) hj).2
theorem IX (hT:TOK P T) {o:Oper} {t t':Nat} {x y:Operand} (ho:o.op = .call { callee := .builtin .append,args:=#[x,y],argTypes:=#[t,t'] }):HOK P T w0 ng o (IY t t'):=by
 intro call hc vals hh nx K r hr h;have h':aJ (Nat.beq t t') (hAppend t t' T call vals hh nx K) (aiY (T t').k t T call vals hh nx K)=r:=h;rw [aQ] at h';split at h'
 ·exact KO hT ho call hc vals hh nx K r hr h'
 ·cases hk:(T t').k<;>rw [hk] at h'<;>try exact absurd h' (hr _)
  ·exact UG hT ho hk call hc vals hh nx K r hr h'
  ·exact KP hT ho hk call hc vals hh nx K r hr h'
theorem Oa (hT:TOK P T) {o:Oper} {t:Nat} {x:Operand} (ho:o.op = .call { callee := .builtin .cap,args:=#[x],argTypes:=#[t] }):HQ P T w0 ng o (ahv t):=by
 intro call _ vals hh nx K r hr h;obtain ⟨v,rfl,k1⟩:=ku h (hr _);obtain ⟨e,he,k2⟩:=eF k1 (hr _);have hu:=hT.slc (jF he);have hl:∀ (w:World) a n c,(Builtin.cap_ #[t] o.type #[.slice a n c]).run P w = .ok (.int .i64 c) w:=fun w a n c=>by
  simp [Builtin.cap_,run_underlying hu,goInt]
 rcases ji k2 with ⟨id,sz,off,len,cap,rfl,k3⟩ | ⟨_,k3⟩
 ·obtain ⟨c,rfl,k4⟩:=eF k3 (hr _);refine ⟨_,k4,fun g hp ρ w g1 g2 g3=>?_⟩;have hx:=qF (x:=x) (by simp [ho,Op.operands,Call.operands]) g3;obtain ⟨a,c',q0,_,_,_,q4,_⟩:=hx.sG;have:=q4 c rfl;subst this;exact ⟨.int .i64 c',by simp [execOp,ho,resolve,invoke,builtin,q0,hl],.int _ _⟩
 ·obtain ⟨hv,k4⟩:=iI k3 (hr _);refine ⟨_,k4,fun g hp ρ w g1 g2 g3=>?_⟩;have hx:=qF (x:=x) (by simp [ho,Op.operands,Call.operands]) g3;have hx':∃ a0,ρ x = .slice a0 0 0:=by
   generalize ρ x=vx at hx;rcases hv with rfl | rfl<;>cases hx<;>exact ⟨_,rfl⟩
  obtain ⟨a0,hx'⟩:=hx';exact ⟨.int .i64 0,by simp [execOp,ho,resolve,invoke,builtin,hx',hl],.int _ _⟩
theorem Et (w:World) (t ty e:TypeId) (i:TypeInfo) (ht:P.underlying t=some (.slice e)) (hi:P.info? e=some i) (a:Option Addr) (len c:Nat) (ax:Option Addr) (m cx:Nat) (news:List Value) (n:Nat) (hn:Nat.min m len=n) (hl:news.length=n*i.size)
  (hx:0<n→∃ ad,ax=some ad∧∀ j x,news[j]?=some x→w.cell? (ad.add j)=some x) (b o:Nat) (cur:Array Value) (Tb:TypeId) (ha:0<len→a=some ⟨b,o,none⟩) (hw:w.heap[b]?=some (.cells cur Tb (0,0))) (hfit:o+len*i.size≤cur.size) (h1:∀ u∈news,u.oneCell'=true) :
  (Builtin.copy_ #[t,t] ty #[.slice a len c,.slice ax m cx]).run P w = .ok (goInt n) (w.setRow b (patch cur o (news.take (n*i.size)))):=by
 have hn':min m len=n:=hn;rcases Nat.eq_zero_or_pos n with h0 | h0
 ·subst h0;have hw':w.setRow b (patch cur o (news.take (0*i.size)))=w:=by
   have:patch cur o (news.take (0*i.size))=cur:=(by simp [patch]);rw [this];exact setRow_self w b cur Tb (0,0) hw
  rw [hw'];cases ax with
  | none=>cases a<;>simp [Builtin.copy_,run_underlying ht,Go.sizeOf,typeInfo,hi,Builtin.lenOf,Builtin.firstCells,Go.storeCells,hn]
  | some ax=>
    have hf:=run_firstCells_some (P:=P) w i.size 0 ax m cx [] (by simp) (by simp);cases a<;>simp [Builtin.copy_,run_underlying ht,Go.sizeOf,typeInfo,hi,Builtin.lenOf,hf,Go.storeCells,hn]
 ·have hm:0<m:=by omega
  have hlen:0<len:=by omega
  obtain ⟨ad,rfl,hc⟩:=hx h0;have ha:=ha hlen;subst ha;have hle:n*i.size≤m*i.size:=Nat.mul_le_mul_right _ (by omega);have hle2:n*i.size≤len*i.size:=Nat.mul_le_mul_right _ (by omega)
  have hf:=run_firstCells_some (P:=P) w i.size n ad m cx (news.take (n*i.size)) (by simp;omega) (fun j v hv=>by
   rw [List.getElem?_take] at hv;split at hv
   ·exact hc j v hv
   ·cases hv)
  have hst:=run_storeCells_at P b o Tb (news.take (n*i.size)) 0 cur w hw (by simp;omega) (fun u hu=>h1 u (List.mem_of_mem_take hu));simp only [Nat.add_zero] at hst;simp [Builtin.copy_,run_underlying ht,Go.sizeOf,typeInfo,hi,Builtin.lenOf,hn,hf,hst,patch]
theorem LD {sz n:Nat} {v:V} {t:Tr Obj} {K:List V→R} {e r:R} (h:ad7 sz n v t K e=r) (he:e≠r) (hn:n≤lenOf v) :
  ∃ ys,K ys=r∧ys.length=n*sz∧∀ g hp nx w u,HR T w0 ng g hp nx w→Sub t hp→RV g nx.num v u→∃ (ax:Option Addr) (cx:Nat) (news:List Value),u = .slice ax (lenOf v) cx∧news.length=n*sz ∧
    (∀ (i:Nat) c x,ys[i]?=some c→news[i]?=some x→RV g nx.num c x∧x.oneCell'=true)∧(0<n→∃ ad,ax=some ad∧∀ j x,news[j]?=some x→w.cell? (ad.add j)=some x):=by
 rcases ji h with ⟨id,sz',off,len,cap,rfl,k1⟩ | ⟨_,k1⟩
 ·obtain ⟨ro,s0,hi,cs,hg,k2⟩:=fK k1 he;obtain ⟨hsz,k3⟩:=aG k2 he;obtain ⟨ys,hy,k4⟩:=jJ k3 he;have hsz':=beq_iff.1 hsz;subst hsz';have hl:ys.length=n*sz:=(dW hy).1;have hn:n≤len:=hn;refine ⟨ys,k4,hl,fun g hp nx w u hr hs hu=>?_⟩;obtain ⟨f,hf1,hf2⟩:=rQ hr hs hg hy;obtain ⟨a,c,rfl,h1,h2,h3,h4,h5,h6,h7⟩:=hu.sG;refine ⟨a,c,(List.range (n*sz)).map f,rfl,by simp,fun i x y hx hy=>?_,fun h0=>⟨_,h7 (by omega),fun j x hx=>?_⟩⟩
  ·have hi:i<n*sz:=(by have:=(List.getElem?_eq_some_iff.1 hy).1;simpa using this);simp [hi] at hy;subst hy;exact hf2 i x hx
  ·have hi:j<n*sz:=(by have:=(List.getElem?_eq_some_iff.1 hx).1;simpa using this);simp [hi] at hx;subst hx;rw [Addr.add_lit];exact hf1 j hi
 ·obtain ⟨hv,k2⟩:=iI k1 he;have h0:n=0:=by
   rcases hv with rfl | rfl<;>exact Nat.le_zero.1 hn
  subst h0;refine ⟨[],k2,by simp,fun g hp nx w u hr hs hu=>?_⟩;rcases hv with rfl | rfl<;>cases hu<;>exact ⟨_,_,[],rfl,by simp,fun i c x hc=>by simp at hc,fun h0=>absurd h0 (Nat.lt_irrefl 0)⟩
theorem UA (hT:TOK P T) {o:Oper} {t t':Nat} {x y:Operand} (ho:o.op = .call { callee := .builtin .copy,args:=#[x,y],argTypes:=#[t,t'] }):HOK P T w0 ng o (aaz t t'):=by
 intro call _ vals hh nx K r hr h;obtain ⟨htt,k0⟩:=aG h (hr _);have htt':=beq_iff.1 htt;subst htt';obtain ⟨e,he,k1⟩:=eF k0 (hr _);obtain ⟨hkn,k2⟩:=aG k1 (hr _);obtain ⟨d,v,rfl,k3⟩:=lq k2 (hr _);have hu:=hT.slc (jF he);obtain ⟨td,i,hf⟩:=hT.facts (Abs.TE.bg hkn);have hcall:∀ (ρ:Operand→Value) w u w',(Builtin.copy_ #[t,t] o.type #[ρ x,ρ y]).run P w = .ok u w'→(execOp ρ o).run P w = .ok (.value u) w':=fun ρ w u w' hrun=>by
  simp [execOp,ho,resolve,invoke,builtin,hrun]
 rcases ji k3 with ⟨id,sz',off,len,cap,rfl,k4⟩ | ⟨_,k4⟩
 ·rw [aI] at k4;obtain ⟨ys,k6,hyl,hsrc⟩:=LD (T:=T) (w0:=w0) (ng:=ng) k4 (hr _) (Nat.min_le_left _ _);obtain ⟨hsz,k7⟩:=aG k6 (hr _);have hsz':=beq_iff.1 hsz;subst hsz';obtain ⟨s1,hi1,cs1,hg,hfit,h1,k8⟩:=oN k7 (hr _);refine ⟨_,_,_,k8,.of_run fun g hp ρ w g1 g2 g3=>?_⟩;obtain ⟨hx,hy⟩:=oK (x:=x) (y:=y) (by simp [ho,Op.operands,Call.operands]) g3;obtain ⟨ax,cx,news,e1,e3,e4,e5⟩:=hsrc g hp nx w _ g1 g2 hy;obtain ⟨a,c,q0,q1,q2,q3,q4,q5,q6,q7⟩:=hx.sG;have hle:min (lenOf v) len*(T e).size≤len*(T e).size:=Nat.mul_le_mul_right _ (Nat.min_le_right _ _);have hlc:len*(T e).size≤c*(T e).size:=Nat.mul_le_mul_right _ q2;have hyl:ys.length=min (lenOf v) len*(T e).size:=hyl;have e3:news.length=min (lenOf v) len*(T e).size:=e3;obtain ⟨cur,Tb,r1,r2,st⟩:=sZ (T:=T) (w0:=w0) (ng:=ng) g1 g2 hg (off:=off) (vs:=ys) (us:=news) (by rw [hyl,e3]) e4 hfit;obtain ⟨cur',Tb',fz,p1,p2,p3,p4,p5⟩:=g1.blk g2 hg;rw [r1] at p1;simp at p1;obtain ⟨rfl,rfl,rfl⟩:=p1;have hnews:∀ u∈news,u.oneCell'=true:=fun u hu=>by
   obtain ⟨j,hj⟩:=List.getElem?_of_mem hu;have hjl:j<ys.length:=(by rw [hyl,← e3];exact (List.getElem?_eq_some_iff.1 hj).1);exact (e4 j _ u (List.getElem?_eq_getElem hjl) hj).2
  have hrun:=Et (P:=P) w t o.type e i hu hf.info a len c ax (lenOf v) cx news (Nat.min (lenOf v) len) rfl (by rw [hf.size];exact e3) e5 (g id).b ((g id).o+off) cur Tb (fun h0=>q7 (by omega)) r1 (by rw [hf.size];omega) hnews;rw [hf.size,List.take_of_length_le (by rw [e3];exact Nat.le_refl _)] at hrun;refine ⟨_,_,_,_,.inl (hcall ρ w _ _ (by rw [q0,e1];exact hrun)),st,?_⟩;exact .int _ _
 ·obtain ⟨ys,k6,hyl,hsrc⟩:=LD (T:=T) (w0:=w0) (ng:=ng) k4 (hr _) (Nat.zero_le _);obtain ⟨hv,k7⟩:=iI k6 (hr _);refine ⟨_,_,_,k7,.quiet fun g hp ρ w g1 g2 g3=>?_⟩;obtain ⟨hx,hy⟩:=oK (x:=x) (y:=y) (by simp [ho,Op.operands,Call.operands]) g3;obtain ⟨ax,cx,news,e1,e3,e4,e5⟩:=hsrc g hp nx w _ g1 g2 hy;have hx':∃ a0,ρ x = .slice a0 0 0:=by
   generalize ρ x=vx at hx;rcases hv with rfl | rfl<;>cases hx<;>exact ⟨_,rfl⟩
  obtain ⟨a0,hx'⟩:=hx';refine ⟨.int .i64 0,hcall ρ w _ _ ?_,.int _ _⟩;rw [hx',e1];cases ax with
  | none=>cases a0<;>simp [Builtin.copy_,run_underlying hu,Go.sizeOf,typeInfo,hf.info,Builtin.lenOf,Builtin.firstCells,Go.storeCells,goInt]
  | some ax=>
    have hf':=run_firstCells_some (P:=P) w i.size 0 ax (lenOf v) cx [] (by simp) (by simp);cases a0<;>simp [Builtin.copy_,run_underlying hu,Go.sizeOf,typeInfo,hf.info,Builtin.lenOf,hf',Go.storeCells,goInt]
theorem Q7 {z:Value} (h1:List.all (cellsOf (cV z)) one=true) (hp:0<z.cells.size) (m:Nat) (g:Gh) (n:Nat) (j:Nat) (c:V) (x:Value) (hc:(rep m (cellsOf (cV z)))[j]?=some c) (hx:(Builtin.zeroCells z.cells m).toList[j]?=some x):RV g n c x∧x.oneCell'=true:=by
 obtain ⟨q1,q2⟩:=(qL g n z).cells h1;have hj:j<m*(cellsOf (cV z)).length:=by have:=(List.getElem?_eq_some_iff.1 hc).1;rw [iC] at this;exact this
 rw [yh m _ j (by omega) hj] at hc;have hmod:j % z.cells.size<z.cells.size:=Nat.mod_lt _ hp;have hx':x=z.cells[j % z.cells.size]:=by
  have hj2:j<m*z.cells.size:=by rw [q1];exact hj
  simp only [Builtin.zeroCells,Array.toList_map,Array.toList_range,List.getElem?_map,List.getElem?_range hj2,Option.map_some,Option.some.injEq] at hx;rw [← hx];exact getElem!_pos z.cells _ hmod
 subst hx';rw [← q1] at hc;exact q2 _ c _ hc (Array.getElem?_eq_getElem hmod)
theorem QC (hT:TOK P T) {o:Oper} {t:Nat} {x:Operand} (ho:o.op = .call { callee := .builtin .clear,args:=#[x],argTypes:=#[t] }):HOK P T w0 ng o (UC t):=by
 intro call _ vals hh nx K r hr h;obtain ⟨e,he,k1⟩:=eF h (hr _);obtain ⟨hkn,k2⟩:=aG k1 (hr _);obtain ⟨hkn,hkn2⟩:=aB hkn;obtain ⟨hpos,hz1⟩:=aB hkn2;have hpos:=aN.1 hpos;obtain ⟨d,rfl,k3⟩:=ku k2 (hr _);have hu:=hT.slc (jF he);obtain ⟨td,i,hf⟩:=hT.facts (Abs.TE.bg hkn);have hzv:∀ w,(zeroValue e).run P w = .ok (T e).zero w:=fun w=>by simp [zeroValue,typeInfo,hf.info,hf.zero]
 have hzp:0<(T e).zero.cells.size:=by rw [hf.kQ];exact hpos
 have hcall:∀ (ρ:Operand→Value) w u w',(Builtin.clear_ #[t] o.type #[ρ x]).run P w = .ok u w'→(execOp ρ o).run P w = .ok (.value u) w':=fun ρ w u w' hrun=>by
  simp [execOp,ho,resolve,invoke,builtin,hrun]
 rcases ji k3 with ⟨id,sz',off,len,cap,rfl,k4⟩ | ⟨_,k4⟩
 ·obtain ⟨hsz,k5⟩:=aG k4 (hr _);have hsz':=beq_iff.1 hsz;subst hsz';rw [sQ] at k5;obtain ⟨s1,hi1,cs1,hg,hfit,h1,k8⟩:=oN k5 (hr _);have hzl:(cellsOf (cV (T e).zero)).length=(T e).size:=by rw [← ((qL (fun _=>⟨0,0,0⟩) 0 (T e).zero).cells hz1).1,hf.kQ]
  have hlen:(rep len (cellsOf (cV (T e).zero))).length=len*(T e).size:=by rw [iC,hzl]
  have hul:(Builtin.zeroCells (T e).zero.cells len).toList.length=len*(T e).size:=by rw [Array.length_toList,size_zeroCells,hf.kQ]
  refine ⟨_,_,_,k8,.of_run fun g hp ρ w g1 g2 g3=>?_⟩;have hx:=qF (x:=x) (by simp [ho,Op.operands,Call.operands]) g3;obtain ⟨a,c,q0,q1,q2,q3,q4,q5,q6,q7⟩:=hx.sG;have hgetz:=Q7 hz1 hzp len;obtain ⟨cur,Tb,r1,r2,st⟩:=sZ (T:=T) (w0:=w0) (ng:=ng) g1 g2 hg (off:=off) (vs:=rep len (cellsOf (cV (T e).zero))) (us:=(Builtin.zeroCells (T e).zero.cells len).toList) (by rw [hul,hlen]) (fun i c u hc hu=>hgetz g nx.num i c u hc hu) hfit;refine ⟨.tuple #[],_,_,_,.inl (hcall ρ w _ _ ?_),st,.tup [] #[] rfl fun i c u hc=>by simp at hc⟩;rw [q0];rcases Nat.eq_zero_or_pos len with h0 | h0
  ·subst h0;have hnil:(Builtin.zeroCells (T e).zero.cells 0).toList=[]:=List.eq_nil_of_length_eq_zero (by rw [hul,Nat.zero_mul]);rw [hnil];have:w.setRow (g id).b (patch cur ((g id).o+off) [])=w:=by
    have:patch cur ((g id).o+off) []=cur:=(by simp [patch]);rw [this];exact setRow_self w (g id).b cur Tb (0,0) r1
   rw [this];cases a<;>simp [Builtin.clear_,run_underlying hu]
  ·have ha:=q7 (by omega);subst ha;have hone:∀ u∈(Builtin.zeroCells (T e).zero.cells len).toList,u.oneCell'=true:=fun u hu=>by
    obtain ⟨j,hj⟩:=List.getElem?_of_mem hu;have hjl:j<(rep len (cellsOf (cV (T e).zero))).length:=(by rw [hlen,← hul];exact (List.getElem?_eq_some_iff.1 hj).1);exact (hgetz g nx.num j _ u (List.getElem?_eq_getElem hjl) hj).2
   have hst:=run_storeCells_at P (g id).b ((g id).o+off) Tb (Builtin.zeroCells (T e).zero.cells len).toList 0 cur w r1 (by simpa using r2) hone;simp only [Nat.add_zero] at hst;obtain ⟨m,rfl⟩:∃ m,len=m+1:=⟨len-1,by omega⟩
   simp [Builtin.clear_,run_underlying hu,hzv,hst,patch]
 ·obtain ⟨hv,k5⟩:=iI k4 (hr _);refine ⟨_,_,_,k5,.quiet fun g hp ρ w g1 g2 g3=>?_⟩;have hx:=qF (x:=x) (by simp [ho,Op.operands,Call.operands]) g3;have hx':∃ a0,ρ x = .slice a0 0 0:=by
   generalize ρ x=vx at hx;rcases hv with rfl | rfl<;>cases hx<;>exact ⟨_,rfl⟩
  obtain ⟨a0,hx'⟩:=hx';refine ⟨.tuple #[],hcall ρ w _ _ ?_,.tup [] #[] rfl fun i c u hc=>by simp at hc⟩;rw [hx'];cases a0<;>simp [Builtin.clear_,run_underlying hu]
end
end Go.Sim
