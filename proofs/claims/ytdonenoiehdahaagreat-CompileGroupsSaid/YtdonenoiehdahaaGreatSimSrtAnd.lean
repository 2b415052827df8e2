/- Sim: the keys of a map, sorted: slices.Sorted at strings, slices.SortedFunc at edges. -/
import Derived.Test.YtdonenoiehdahaaGreatSimWAnd
import Derived.Test.YtdonenoiehdahaaGreatKeysRAnd
import Derived.Sort.Walk0
import Derived.Lib.Overlaps
set_option linter.all false
namespace Go.Sim
open Go Go.RowKit Go.Keys Go.Proofs
open Go.Abs (TE TK SK TOK)
noncomputable def keysOf:List (V×V)→List V
 | []=>[]
 | e::es=>Prod.rec (motive:=fun _=>List V) (fun k _=>k::keysOf es) e
theorem keysOf_eq:∀ es:List (V×V),keysOf es=es.map Prod.fst
 | []=>rfl
 | e::es=>by simp [keysOf,keysOf_eq es]
noncomputable def Zy (lt:V→V→Bool) (v:V):List V→List V
 | []=>[v]
 | u::us=>aJ (lt v u) (v::u::us) (u::Zy lt v us)
noncomputable def sortV (lt:V→V→Bool):List V→List V
 | []=>[]
 | v::vs=>Zy lt v (sortV lt vs)
theorem Jf (lt:V→V→Bool) (v:V):∀ us:List V,(Zy lt v us).Perm (v::us)
 | [] => .refl _
 | u::us=>by
   unfold Zy;rw [aQ];split
   ·exact .refl _
   ·exact ((Jf lt v us).cons u).trans (.swap v u us)
theorem wR (lt:V→V→Bool):∀ vs:List V,(sortV lt vs).Perm vs
 | [] => .refl _
 | v::vs=>(Jf lt v _).trans ((wR lt vs).cons v)
def allB {α:Type} (p:α→Bool):List α→Bool
 | []=>true
 | x::xs=>and (p x) (allB p xs)
theorem zO {α:Type} {p:α→Bool}:∀ {l:List α},allB p l=true→∀ x∈l,p x=true
 | [],_,x,h=>by simp at h
 | y::l,h,x,hx=>by
   obtain ⟨h1,h2⟩:=aB h;rcases List.mem_cons.1 hx with rfl | hx
   ·exact h1
   ·exact zO h2 x hx
def RY {α:Type} (p:α→α→Bool):List α→Bool
 | []=>true
 | x::xs=>and (allB (p x) xs) (RY p xs)
theorem Ez {α:Type} {p:α→α→Bool}:∀ {l:List α},RY p l=true→l.Pairwise fun a b=>p a b=true
 | [],_ => .nil
 | x::l,h=>by
   obtain ⟨h1,h2⟩:=aB h;exact .cons (zO h1) (Ez h2)
noncomputable def ltS (a b:V):Bool:=gB a (fun l n=>gB b (fun l' n'=>strLt l n l' n') false) false
noncomputable def isS (a:V):Bool:=gB a (fun _ _=>true) false
noncomputable def lnK {R:Type} (l:List V) (K:Nat→R):R:=aU l.length K
noncomputable def Xf (fk:Nat) (f:V) (t:Tr Obj) (K:List (V×V)→FR) (e:FR):FR:=
 Ri f (fun f fs cs=>aJ (and (Nat.beq f fk) (Nat.beq fs.length 0)) (l1 cs (fun p=>jX p (fun id off=>mF (id.get t) (fun _ _ _ cells=>ku ((bOf off).get cells) (fun m=>wL m (fun mid=>VB (mid.get t) (fun _ es=>K es) e) e) e) e) e) e) e) e
section
variable {P:Program} {T:Nat→TE} {w0:World} {ng:Nat}
theorem N9 {fk:Nat} {f:V} {t:Tr Obj} {K:List (V×V)→FR} {e r:FR} (h:Xf fk f t K e=r) (he:e≠r) :
  ∃ es,K es=r∧∀ g hp nx w x,HR T w0 ng g hp nx w→Sub t hp→RV g nx.num f x→∃ (p:Addr) (b:Nat) (ents:Array MapEntry) (clock:Nat),x = .func (.func fk) #[] #[.pointer (some p)]∧w.cell? p=some (.map (some b)) ∧
    w.heap[b]?=some (.map ents clock)∧ents.size=es.length∧(∀ (i:Nat) (m:MapEntry) (e:V×V),ents[i]?=some m→es[i]?=some e→RV g nx.num e.1 m.key)∧Stamped ents clock:=by
 obtain ⟨f',fs,cs,rfl,h⟩:=DJ h he;obtain ⟨h1,h⟩:=aA h he;obtain ⟨h1,h2⟩:=aB h1;obtain ⟨p,rfl,h⟩:=nN h he;obtain ⟨id,off,rfl,h⟩:=jW h he;obtain ⟨ro,sz,hi,cells,hg,h⟩:=jf h he;obtain ⟨m,hm,h⟩:=eG h he;obtain ⟨mid,rfl,h⟩:=G8 h he;obtain ⟨kt,es,hmg,h⟩:=zL h he;refine ⟨es,h,fun g hp nx w x hr hs hx=>?_⟩;have e1:=Nat.eq_of_beq_eq_true h1;have e2:fs=[]:=List.eq_nil_of_length_eq_zero (Nat.eq_of_beq_eq_true h2);subst e1;subst e2;cases hx with
 | fn f fs cs vf vc q1 q2 q3 q4=>
   have v1:vf=#[]:=Array.eq_empty_of_size_eq_zero (by simpa using q1);subst v1;obtain ⟨c,rfl⟩:∃ c,vc=#[c]:=by
    match vc,q3 with
    | ⟨[c]⟩,_=>exact ⟨c,rfl⟩
   have hc:=q4 0 _ c rfl rfl;cases hc with
   | ptr id off hid=>
     obtain ⟨_,cur,Tb,fz,o1,o2,o3,o4,o5⟩:=hr.obj id _ (hs id _ hg);obtain ⟨_,u,u1,u2,_⟩:=o5 off _ hm;cases u2 with
     | map mid hmid=>
       obtain ⟨_,ents,clock,m1,m2,m3,m4,m5⟩:=hr.obj mid _ (hs mid _ hmg);refine ⟨_,_,ents,clock,rfl,?_,m1,m2,fun i m e a b=>(m3 i m e a b).1,m5⟩
       simpa [World.cell?,o1] using u1
theorem MQ {g:Gh} {hp:B→Option Obj} {t:Tr Obj} {nx:B} {w w':World} (hng:ng≠0) (h:HR T w0 ng g hp nx w) (hs:Sub t hp) (hB:Below w.heap.size w w') {e sz n:Nat} {v:Value} {us:List Value} (hrow:w'.ownsRow w.heap.size e sz v n us) (hn:0<n) (hsz:0<sz)
  {vs:List V} (hv:RVL g nx.num vs us) (h1:∀ u∈us,u.oneCell'=true) :
  ∃ g' hp',Step T w0 ng g hp t nx w g' hp' (nx.put t (some (.blk false (n*sz) (n*sz) (ji vs .lf 0)))) nx.inc w'∧RV g' nx.inc.num (.sl nx sz 0 n none) v:=by
 obtain ⟨hul,h0 | ⟨gb,cap,cur,rfl,hbase,hgb,r1,r2,r3,r4⟩⟩:=hrow
 ·omega
 have st1:Step T w0 ng g hp t nx w g hp t nx w' := .idle h hs ⟨hB.os,hB.tape,hB.output,hB.size,fun e=>absurd e hng⟩ hB.block;have hfree:∀ id o,hp id=some o→(g id).b≠gb:=fun id o ho=>by
  have:=(h.obj id o ho).2.blk;omega
 have hmul:n*sz≤cap*sz:=Nat.mul_le_mul_right sz r1;have hnx:=B.gQ nx;have hext:Ext g (dP g nx ⟨gb,0,cap*sz⟩) nx.num:=qK (Nat.le_refl _);have hgn:dP g nx ⟨gb,0,cap*sz⟩ nx=⟨gb,0,cap*sz⟩:=by simp [dP]
 have hreg:Reg T w0 ng gb g hp t nx w' (dP g nx ⟨gb,0,cap*sz⟩) (iQ hp nx (some (.blk false (n*sz) (n*sz) (ji vs .lf 0)))) (nx.put t (some (.blk false (n*sz) (n*sz) (ji vs .lf 0)))) nx.inc:=by
  refine Reg.new st1.hr st1.sub (Nat.le_trans h.size hbase) hfree ⟨cur,e,(0,0),by rw [hgn];exact hgb,fun _=>rfl,by rw [hgn];simp [r3],by rw [hgn];exact hmul,fun j v hj=>?_⟩;rw [iq] at hj;split at hj
  ·rename_i hlt;rw [Nat.sub_zero] at hj;have hjl:j<us.length:=(by rw [hv.1];omega);refine ⟨by omega,us[j],?_,(hv.2 j v us[j] hj (List.getElem?_eq_getElem hjl)).mono hext (by omega),h1 _ (List.getElem_mem hjl)⟩;rw [hgn];show cur[0+j]?=_;rw [Nat.zero_add,← Array.getElem?_toList];have:(cur.toList.take (n*sz))[j]?=us[j]?:=(by rw [r4]);rw [List.getElem?_take_of_lt (by omega)] at this;rw [this,List.getElem?_eq_getElem hjl]
  ·rw [B.jB] at hj;cases hj
 refine ⟨_,_,st1.reg hreg hbase,?_⟩;exact .sl nx sz 0 n none _ cap (by omega) r1 r2 (fun k hk=>by cases hk) hsz (by rw [hgn];simp) (fun _=>by rw [hgn])
end
noncomputable def Nq (fk:Nat):Pre:=fun args t nx _=>
 l1 args (fun f=>Xf fk f t (fun es=>AA (sortV ltS (keysOf es)) fun L=>aJ (and (and (allB isS L) (RY ltS L)) (Nat.ble L.length 1000000))
  (lnK L fun n=>isZero n (.ret .bZ t nx) (vF L .lf 0 fun cs=>qw n cs t nx fun t' nx' => .ret (.sl nx 1 0 n none) t' nx')) (.bad 401)) (.bad 402)) (.bad 403)
section
variable {T:Nat→TE} {w0:World} {ng:Nat}
theorem acs {v:V} (h:isS v=true):∃ l n,v = .str l n:=by
 obtain ⟨l,n,rfl,_⟩:=gy h (by decide);exact ⟨l,n,rfl⟩
theorem Np (hng:ng≠0):Uz Tryz.prog T w0 ng 159 (Nq 181):=by
 intro args t nx e v t' nx' h;have hb:∀ n,FR.bad n ≠ .ret v t' nx':=fun n h=>by cases h
 obtain ⟨f,rfl,h⟩:=nN h (hb _);obtain ⟨es,h,hkeys⟩:=N9 (T:=T) (w0:=w0) (ng:=ng) h (hb _);rw [lH] at h;obtain ⟨hc,h⟩:=aA h (hb _);obtain ⟨hc1,hc2⟩:=aB hc;obtain ⟨ha,hpw⟩:=aB hc1;have hbig:=aZ.1 hc2;unfold lnK at h;rw [aC,jA,fE,gU] at h;generalize hL:sortV ltS (keysOf es)=SV at *;have hperm:SV.Perm (es.map Prod.fst):=by rw [← hL,← keysOf_eq];exact wR _ _
 refine .inl (.inl ⟨⟨_,Tryz.func159,by kernel_rfl,rfl⟩,fun g hp w vs hr hs hrv=>?_⟩);obtain ⟨x,vs1,rfl,hx,hrv⟩:=hrv.inv;have:=hrv.Dl;subst this;obtain ⟨p,b,ents,clock,rfl,hm,hbm,hsz,hrk,hst⟩:=hkeys g hp nx w x hr hs hx;have hkv:∀ i:Fin ents.size,∃ s:List UInt8,ents[i].key=encStr s∧(es.map Prod.fst)[i.1]?=some (.str s.length (aW s))∧s.length≤maxL:=fun i=>by
  have hi:i.1<es.length:=by rw [← hsz];exact i.2
  have h1:=hrk i.1 ents[i] es[i.1] (by simp) (by simp [hi]);have h2:es[i.1].1∈SV:=hperm.mem_iff.2 (List.mem_map.2 ⟨es[i.1],List.getElem_mem hi,rfl⟩);obtain ⟨l,n,h3⟩:=acs (zO ha _ h2);rw [h3] at h1;have h4:(es.map Prod.fst)[i.1]?=some (.str l n):=by rw [List.getElem?_map,List.getElem?_eq_getElem hi];simp [h3]
  revert h1;generalize ents[i].key=kk;intro h1;cases h1 with
  | str s hs=>exact ⟨s,rfl,h4,hs⟩
 obtain ⟨kv,hkv⟩:=Classical.axiomOfChoice hkv;have hmap:es.map Prod.fst=(List.finRange ents.size).map fun i=>V.str (kv i).length (aW (kv i)):=by
  apply List.ext_getElem?;intro i;by_cases hi:i<ents.size
  ·rw [(hkv ⟨i,hi⟩).2.1];simp [hi]
  ·rw [List.getElem?_eq_none (by simp;omega),List.getElem?_eq_none (by simp;omega)]
 obtain ⟨xs,hxp,hxs⟩:=Eu (fun i=>V.str (kv i).length (aW (kv i))) hperm _ hmap;have hpl:=Ez hpw;have hlen:SV.length=(xs.map kv).length:=by rw [hxs];simp
 have hxl:xs.length=ents.size:=by rw [hxp.length_eq];simp
 have hcon:=Tryz.DZ p b ents clock kv (fun i=>(hkv i).1) hst w hm hbm (xs.map kv) (hxp.map kv).symm (by
  rw [hxs] at hpl;rw [List.pairwise_map] at hpl ⊢;refine hpl.imp fun {i j} hij=>?_
  have:strLt (kv i).length (aW (kv i)) (kv j).length (aW (kv j))=true:=hij;rw [oO,bytesLess_eq,decide_eq_true_eq] at this
  exact List.le_of_lt this) (by rw [← hxl];simp at hlen;rw [← hlen];exact Nat.le_trans hbig (by decide)) (by rw [← hxl];simp at hlen;omega)
 refine hcon.mono ?_;rintro e w' ⟨v1,rfl,hrow,hB,hnil⟩;by_cases h0:SV.length=0
 ·rw [if_pos h0] at h;cases h;have hl0:xs.map kv=[]:=List.eq_nil_of_length_eq_zero (by rw [← hlen];exact h0);rw [hnil hl0];exact ⟨g,hp,_,rfl,.idle hr hs ⟨hB.os,hB.tape,hB.output,hB.size,fun e=>absurd e hng⟩ hB.block,.bZ⟩
 rw [if_neg h0] at h;cases h
 obtain ⟨g',hp',st,hv⟩:=MQ (vs:=SV) hng hr hs hB hrow (by rw [← hlen];omega) (by omega) (by
  rw [hxs];refine ⟨by simp,fun i c u hc hu=>?_⟩;rw [List.map_map,List.getElem?_map] at hu;rw [List.getElem?_map] at hc;cases hxi:xs[i]? with
  | none=>rw [hxi] at hc;cases hc
  | some y=>rw [hxi] at hc hu;cases hc;cases hu;exact .str _ (hkv y).2.2) (fun u hu=>by obtain ⟨y,_,rfl⟩:=List.mem_map.1 hu;rfl)
 rw [← hlen,Nat.mul_one] at st;rw [← hlen] at hv;exact ⟨g',hp',_,rfl,st,hv⟩
end
noncomputable def Yf {R:Type} (v:V) (K:Nat→Nat→Nat→Nat→Bool→R) (e:R):R:=
 asAgg v (fun cs=>l3 cs (fun a b c=>gB a (fun l n=>gB b (fun l' n'=>asBool c (fun c=>K l n l' n' c) e) e) e) e) e
noncomputable def isE (v:V):Bool:=Yf v (fun _ _ _ _ _=>true) false
noncomputable def ltE (u v:V):Bool:=Yf u (fun l n l' n' c=>Yf v (fun k m k' m' d=>or (strLt l n k m) (and (strEq l n k m) (or (strLt l' n' k' m') (and (strEq l' n' k' m') (and d (not c)))))) false) false
theorem acv {v:V} (h:isE v=true):∃ l n l' n' c,v = .agg [.str l n,.str l' n',.bool c]:=by
 obtain ⟨cs,rfl,h⟩:=zM h (by decide);obtain ⟨a,b,c,rfl,h⟩:=Xd h (by decide);obtain ⟨l,n,rfl,h⟩:=gy h (by decide);obtain ⟨l',n',rfl,h⟩:=gy h (by decide);obtain ⟨c,rfl,h⟩:=pX h (by decide);exact ⟨l,n,l',n',c,rfl⟩
noncomputable def eY (call:Cl) (f:Nat) (nx:B) (lt:Bool) (a b:V):Bool:=
 FR.rec (motive:=fun _=>Bool) (fun _=>false) (fun v _ _=>asInt v (fun k c=>and (Nat.beq (ikN k) 3) (aJ lt (ltI c 0) (not (ltI c 0)))) false) (call f [a,b] .lf nx)
theorem LQ {call:Cl} {f:Nat} {nx:B} {lt:Bool} {a b:V} (h:eY call f nx lt a b=true):∃ c t' nx',call f [a,b] .lf nx = .ret (.int .i64 c) t' nx'∧(c<0↔lt=true):=by
 unfold eY at h;cases hc:call f [a,b] .lf nx with
 | bad n=>rw [hc] at h;cases h
 | ret v t' nx'=>
   rw [hc] at h;obtain ⟨k,c,rfl,h⟩:=dY (show asInt v _ false=true from h) (by decide);obtain ⟨h1,h2⟩:=aB h;have e:k = .i64:=Dp (k' := .i64) h1;subst e;refine ⟨c,t',nx',rfl,?_⟩;rw [aQ] at h2;split at h2
   ·rename_i hl;rw [qC,decide_eq_true_eq] at h2;exact ⟨fun _=>hl,fun _=>h2⟩
   ·rename_i hl;rw [qC] at h2;have:¬ c<0:=(by simpa using h2);exact ⟨fun h=>absurd h this,fun h=>absurd h hl⟩
noncomputable def Ns (call:Cl) (fk gk:Nat):Pre:=fun args t nx _=>
 l2 args (fun f c=>Ri c (fun c fs cs=>aJ (and (Nat.beq c gk) (and (Nat.beq fs.length 0) (Nat.beq cs.length 0)))
  (Xf fk f t (fun es=>AA (sortV ltE (keysOf es)) fun L=>aJ (and (and (allB isE L) (and (RY (fun a b=>and (eY call gk nx true a b) (eY call gk nx false b a)) L) (allB (fun a=>eY call gk nx false a a) L))) (and (Nat.blt 0 L.length) (Nat.ble L.length 12)))
   (lnK L fun n=>vF (L.flatMap cellsOf) .lf 0 fun cs=>aU (Nat.mul n 3) fun m=>qw m cs t nx fun t' nx' => .ret (.sl nx 3 0 n none) t' nx') (.bad 411)) (.bad 412)) (.bad 413)) (.bad 414)) (.bad 415)
section
variable {T:Nat→TE} {w0:World} {ng:Nat}
theorem HR.zero {g:Gh} {hp:B→Option Obj} {nx:B} {w:World} (h:HR T w0 ng g hp nx w):HR T w0 0 g hp nx w:=
 ⟨h.os,h.tape,h.output,h.size,h.old,h.obj,h.sep,h.new,fun i hi=>absurd hi (Nat.not_lt_zero i),Nat.zero_le _⟩
theorem L9 {W W':World} (h1:W'.os=W.os) (h2:W'.tape=W.tape) (h3:W'.output=W.output) (h4:W.heap.size≤W'.heap.size) (h5:∀ b,b<W.heap.size→W'.heap[b]?=W.heap[b]?) (h6:W.drawn≤W'.drawn) :
  ∃ q os',W'=Sort.grow (W.drewN q) os':=by
 refine ⟨W'.drawn-W.drawn,W'.heap.extract W.heap.size W'.heap.size,?_⟩;have hh:W'.heap=W.heap++W'.heap.extract W.heap.size W'.heap.size:=by
  apply Array.ext_getElem?;intro i;by_cases hi:i<W.heap.size
  ·rw [Array.getElem?_append_left hi];exact h5 i hi
  ·rw [Array.getElem?_append_right (by omega),Array.getElem?_extract];by_cases hi':i<W'.heap.size
   ·rw [if_pos (by omega),show W.heap.size+(i-W.heap.size)=i by omega]
   ·rw [if_neg (by omega)];exact Array.getElem?_eq_none (by omega)
 have hd:W'.drawn=W.drawn+(W'.drawn-W.drawn):=by omega
 show W'={ heap:=W.heap++W'.heap.extract W.heap.size W'.heap.size,tape:=W.tape,drawn:=W.drawn+(W'.drawn-W.drawn),os:=W.os,output:=W.output };obtain ⟨a,b,c,d,e⟩:=W';simp only at h1 h2 h3 hh hd ⊢;rw [← hh,← hd,h1,h2,h3]
theorem Y1 {g:Gh} {n:Nat} {l m l' m':Nat} {c:Bool} {x:Value} (h:RV g n (.agg [.str l m,.str l' m',.bool c]) x):∃ s:nX,x=kE s∧V.agg [.str l m,.str l' m',.bool c] = .agg [.str s.1.length (aW s.1),.str s.2.1.length (aW s.2.1),.bool s.2.2]∧s.1.length≤maxL∧s.2.1.length≤maxL:=by
 cases h with
 | agg cs vs q1 q2 q3=>
   obtain ⟨x,y,z,rfl⟩:∃ x y z,vs=#[x,y,z]:=by
    match vs,q1 with
    | ⟨[x,y,z]⟩,_=>exact ⟨x,y,z,rfl⟩
   have h1:=q2 0 _ x rfl rfl;have h2:=q2 1 _ y rfl rfl;have h3:=q2 2 _ z rfl rfl;cases h1 with
   | str s hs=>
   cases h2 with
   | str s' hs'=>
   cases h3 with
   | bool b=>exact ⟨(s,s',_),rfl,rfl,hs,hs'⟩
theorem Ua {g:Gh} {n:Nat} (s:nX) (h1:s.1.length≤maxL) (h2:s.2.1.length≤maxL):RV g n (.agg [.str s.1.length (aW s.1),.str s.2.1.length (aW s.2.1),.bool s.2.2]) (kE s):=by
 have key:RVL g n [.str s.1.length (aW s.1),.str s.2.1.length (aW s.2.1),.bool s.2.2] [encStr s.1,encStr s.2.1,.bool s.2.2] := .cons (.str _ h1) (.cons (.str _ h2) (.cons (.bool _) .nil));refine .agg _ _ rfl (fun i c v hc hv=>key.2 i c v hc (by simpa using hv)) (fun i v hv=>?_);have:v∈cellsE s:=List.mem_iff_getElem?.2 ⟨i,by simpa [cellsE] using hv⟩;exact l9 s v this
theorem Nr (hng:ng≠0) {call:Cl} (hc0:jh Tryz.prog T w0 0 call):Uz Tryz.prog T w0 ng 152 (Ns call 163 154):=by
 intro args t nx e v t' nx' h;have hb:∀ n,FR.bad n ≠ .ret v t' nx':=fun n h=>by cases h
 obtain ⟨f,cm,rfl,h⟩:=nM h (hb _);obtain ⟨c,fs,cs,rfl,h⟩:=DJ h (hb _);obtain ⟨hcc,h⟩:=aA h (hb _);obtain ⟨hcg,hcc2⟩:=aB hcc;obtain ⟨hcf,hcs⟩:=aB hcc2;have hcg:=Nat.eq_of_beq_eq_true hcg;clear hcc hcc2;obtain rfl:fs=[]:=List.eq_nil_of_length_eq_zero (Nat.eq_of_beq_eq_true hcf);obtain rfl:cs=[]:=List.eq_nil_of_length_eq_zero (Nat.eq_of_beq_eq_true hcs);subst hcg;obtain ⟨es,h,hkeys⟩:=N9 (T:=T) (w0:=w0) (ng:=ng) h (hb _);rw [lH] at h;obtain ⟨hc,h⟩:=aA h (hb _);obtain ⟨hc1,hc2⟩:=aB hc;obtain ⟨ha,hpw⟩:=aB hc1;obtain ⟨hpw,hrf⟩:=aB hpw;obtain ⟨h0,hbig⟩:=aB hc2;have h0:=aX.1 h0;have hbig:=aZ.1 hbig;unfold lnK at h;rw [aC,fE,aC,gU] at h;cases h;generalize hL:sortV ltE (keysOf es)=SV at *;have hperm:SV.Perm (es.map Prod.fst):=by rw [← hL,← keysOf_eq];exact wR _ _
 refine .inl (.inl ⟨⟨_,Tryz.func152,by kernel_rfl,rfl⟩,fun g hp w vs hr hs hrv=>?_⟩);obtain ⟨x,vs1,rfl,hx,hrv⟩:=hrv.inv;obtain ⟨y,vs2,rfl,hy,hrv⟩:=hrv.inv;have:=hrv.Dl;subst this;obtain ⟨p,b,ents,clock,rfl,hm,hbm,hsz,hrk,hst⟩:=hkeys g hp nx w x hr hs hx;obtain rfl:y = .func (.func 154) #[] #[]:=by
  cases hy with
  | fn f fs cs vf vc q1 q2 q3 q4=>
    have e1:vf=#[]:=Array.eq_empty_of_size_eq_zero (by simpa using q1);have e2:vc=#[]:=Array.eq_empty_of_size_eq_zero (by simpa using q3);rw [e1,e2]
 let vE:nX→V:=fun s => .agg [.str s.1.length (aW s.1),.str s.2.1.length (aW s.2.1),.bool s.2.2]
 have hkv:∀ i:Fin ents.size,∃ s:nX,ents[i].key=kE s∧(es.map Prod.fst)[i.1]?=some (vE s)∧s.1.length≤maxL∧s.2.1.length≤maxL:=fun i=>by
  have hi:i.1<es.length:=by rw [← hsz];exact i.2
  have h1:=hrk i.1 ents[i] es[i.1] (by simp) (by simp [hi]);have h2:es[i.1].1∈SV:=hperm.mem_iff.2 (List.mem_map.2 ⟨es[i.1],List.getElem_mem hi,rfl⟩);obtain ⟨l,n,l',n',c,h3⟩:=acv (zO ha _ h2);rw [h3] at h1;obtain ⟨s,s1,s2,s3,s4⟩:=Y1 h1;exact ⟨s,s1,by rw [List.getElem?_map,List.getElem?_eq_getElem hi];simp only [Option.map_some,h3];exact congrArg some s2,s3,s4⟩
 obtain ⟨kv,hkv⟩:=Classical.axiomOfChoice hkv;have hmap:es.map Prod.fst=(List.finRange ents.size).map fun i=>vE (kv i):=by
  apply List.ext_getElem?;intro i;by_cases hi:i<ents.size
  ·rw [(hkv ⟨i,hi⟩).2.1];simp [hi]
  ·rw [List.getElem?_eq_none (by simp;omega),List.getElem?_eq_none (by simp;omega)]
 obtain ⟨xs,hxp,hxs⟩:=Eu (fun i=>vE (kv i)) hperm _ hmap;have hpl:=Ez hpw;have hrl:=zO hrf;obtain ⟨L,hLd⟩:∃ L,xs.map kv=L:=⟨_,rfl⟩
 have hSL:SV=L.map vE:=by rw [← hLd,List.map_map];exact hxs
 have hlen:SV.length=L.length:=by rw [hSL];simp
 have hget:∀ i:Fin L.length,(L.get i).1.length≤maxL∧(L.get i).2.1.length≤maxL:=fun i=>by
  have:L.get i∈xs.map kv:=by rw [hLd];exact List.get_mem L i
  obtain ⟨j,_,hj⟩:=List.mem_map.1 this;rw [← hj];exact (hkv j).2.2
 have hcmp:∀ i j:Fin L.length,∃ c t1 nx1,call 154 [vE (L.get i),vE (L.get j)] .lf nx = .ret (.int .i64 c) t1 nx1∧(c<0↔i<j):=fun i j=>by
  rw [hSL,List.pairwise_map,List.pairwise_iff_getElem] at hpl;rcases Nat.lt_trichotomy i.1 j.1 with hij | hij | hij
  ·obtain ⟨h1,_⟩:=aB (hpl i.1 j.1 i.2 j.2 hij);obtain ⟨c,t1,nx1,h2,h3⟩:=LQ h1;exact ⟨c,t1,nx1,h2,by rw [h3];exact ⟨fun _=>hij,fun _=>rfl⟩⟩
  ·obtain rfl:i=j:=Fin.ext hij;obtain ⟨c,t1,nx1,h2,h3⟩:=LQ (hrl (vE (L.get i)) (by rw [hSL];exact List.mem_map.2 ⟨_,List.get_mem L i,rfl⟩));exact ⟨c,t1,nx1,h2,by rw [h3];simp⟩
  ·obtain ⟨_,h1⟩:=aB (hpl j.1 i.1 j.2 i.2 hij);obtain ⟨c,t1,nx1,h2,h3⟩:=LQ h1;exact ⟨c,t1,nx1,h2,by rw [h3];simp;omega⟩
 have hcmp':∀ ij:Fin L.length×Fin L.length,∃ c:Int,∃ t1 nx1,call 154 [vE (L.get ij.1),vE (L.get ij.2)] .lf nx = .ret (.int .i64 c) t1 nx1∧(c<0↔ij.1<ij.2):=fun ij=>hcmp ij.1 ij.2
 obtain ⟨cf,hcf⟩:=Classical.axiomOfChoice hcmp';have hcon:=Tryz.MV p b ents clock kv (fun i=>(hkv i).1) hst w hm hbm L (by rw [← hLd];exact (hxp.map kv).symm) (by rw [← hlen];exact h0) (by rw [← hlen];exact hbig) 154
  (enters_of Tryz.func154 (by kernel_rfl) rfl) (fun i j=>cf (i,j)) (fun i j=>by obtain ⟨t1,nx1,_,h⟩:=hcf (i,j);exact h) (fun W hW i j=>by
   obtain ⟨t1,nx1,h1,_⟩:=hcf (i,j);have hrW:HR T w0 ng g hp nx W:=(Step.idle hr hs ⟨hW.os,hW.tape,hW.output,hW.size,fun e=>absurd e hng⟩ hW.block).hr;have hv2:RVL g nx.num [vE (L.get i),vE (L.get j)] [kE (L.get i),kE (L.get j)] := .cons (Ua _ (hget i).1 (hget i).2) (.cons (Ua _ (hget j).1 (hget j).2) .nil);rcases hc0 _ _ _ _ _ _ _ h1 with ⟨_,h2⟩ | ⟨_,_,⟨fn,h3,h4⟩,_⟩
   ·refine (h2 g hp W _ hrW.zero (fun id o ho=>by rw [B.jB] at ho;cases ho) hv2).mono ?_;rintro e w' ⟨g',hp',val,rfl,st,hv⟩;refine ⟨by cases hv;rfl,L9 (st.hr.os.trans hrW.os.symm) (st.hr.tape.trans hrW.tape.symm) (st.hr.output.trans hrW.output.symm) st.sz (fun b hb=>st.un b hb fun id o ho=>by rw [B.jB] at ho;cases ho) (st.dr rfl)⟩
   ·rw [Tryz.func154] at h3;cases h3
    exact absurd h4 (by decide))
 refine hcon.mono ?_;rintro e w' ⟨v,rfl,hrow,hB⟩;have hcells:SV.flatMap cellsOf=L.flatMap fun s=>[V.str s.1.length (aW s.1),.str s.2.1.length (aW s.2.1),.bool s.2.2]:=by
  rw [hSL,List.flatMap_map];rfl
 obtain ⟨g',hp',st,hv⟩:=MQ (vs:=SV.flatMap cellsOf) hng hr hs hB hrow (by rw [← hlen];exact h0) (by omega) (by
  rw [hcells];have:∀ l:List nX,(∀ s∈l,s.1.length≤maxL∧s.2.1.length≤maxL)→RVL g nx.num (l.flatMap fun s=>[V.str s.1.length (aW s.1),.str s.2.1.length (aW s.2.1),.bool s.2.2]) (l.flatMap cellsE):=by
   intro l hl
   induction l with
   | nil=>exact .nil
   | cons s l ih=>
     rw [List.flatMap_cons,List.flatMap_cons];exact .append (.cons (.str _ (hl s (by simp)).1) (.cons (.str _ (hl s (by simp)).2) (.cons (.bool _) .nil))) (ih fun s hs=>hl s (by simp [hs]))
  exact this L fun s hs=>by
   obtain ⟨i,hi,rfl⟩:=List.mem_iff_getElem.1 hs
   exact hget ⟨i,hi⟩) (fun u hu=>by obtain ⟨s,_,hs⟩:=List.mem_flatMap.1 hu;exact l9 s u hs)
 rw [← hlen] at st hv;exact ⟨g',hp',_,rfl,st,hv⟩
end
end Go.Sim
namespace Go.Sim
open Go Go.RowKit
open Go.Abs (TE TK SK TOK patch)
section
variable {P:Program} {T:Nat→TE} {w0:World} {ng:Nat}
end
section
variable {P:Program} {T:Nat→TE} {w0:World} {ng:Nat}
end
section
variable {P:Program} {T:Nat→TE} {w0:World} {ng:Nat}
end
end Go.Sim
