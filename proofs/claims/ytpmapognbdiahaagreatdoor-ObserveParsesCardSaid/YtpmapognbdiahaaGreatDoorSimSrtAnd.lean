/- Sim: the keys of a map, sorted: slices.Sorted at strings, slices.SortedFunc at edges. -/
import Derived.Test.YtpmapognbdiahaaGreatDoorSimW3And
import Derived.Test.YtpmapognbdiahaaGreatDoorKeysRAnd
import Derived.Sort.Walk0
import Derived.Lib.Overlaps
set_option linter.all false
namespace Go.Sim
open Go Go.RowKit Go.Keys Go.Proofs
open Go.Abs (TE TK SK TOK)
noncomputable def keysOf:List (V×V)→List V
 | []=>[]
 | e::es=>Prod.rec (motive:=fun _=>List V) (fun k _=>k::keysOf es) e
theorem keysOf_eq:∀ es:List (V×V),keysOf es=es.map Prod.fst
 | []=>rfl
 | e::es=>by simp [keysOf,keysOf_eq es]
noncomputable def XV (lt:V→V→Bool) (v:V):List V→List V
 | []=>[v]
 | u::us=>aJ (lt v u) (v::u::us) (u::XV lt v us)
noncomputable def sortV (lt:V→V→Bool):List V→List V
 | []=>[]
 | v::vs=>XV lt v (sortV lt vs)
theorem Dk (lt:V→V→Bool) (v:V):∀ us:List V,(XV lt v us).Perm (v::us)
 | [] => .refl _
 | u::us=>by
   unfold XV;rw [aQ];split
   ·exact .refl _
   ·exact ((Dk lt v us).cons u).trans (.swap v u us)
theorem ru (lt:V→V→Bool):∀ vs:List V,(sortV lt vs).Perm vs
 | [] => .refl _
 | v::vs=>(Dk lt v _).trans ((ru lt vs).cons v)
def allB {α:Type} (p:α→Bool):List α→Bool
 | []=>true
 | x::xs=>and (p x) (allB p xs)
theorem uS {α:Type} {p:α→Bool}:∀ {l:List α},allB p l=true→∀ x∈l,p x=true
 | [],_,x,h=>by simp at h
 | y::l,h,x,hx=>by
   obtain ⟨h1,h2⟩:=aB h;rcases List.mem_cons.1 hx with rfl | hx
   ·exact h1
   ·exact uS h2 x hx
def LZ {α:Type} (p:α→α→Bool):List α→Bool
 | []=>true
 | x::xs=>and (allB (p x) xs) (LZ p xs)
theorem zh {α:Type} {p:α→α→Bool}:∀ {l:List α},LZ p l=true→l.Pairwise fun a b=>p a b=true
 | [],_ => .nil
 | x::l,h=>by
   obtain ⟨h1,h2⟩:=aB h;exact .cons (uS h1) (zh h2)
noncomputable def ltS (a b:V):Bool:=jo a (fun l n=>jo b (fun l' n'=>strLt l n l' n') false) false
noncomputable def isS (a:V):Bool:=jo a (fun _ _=>true) false
noncomputable def lnK {R:Type} (l:List V) (K:Nat→R):R:=aT l.length K
noncomputable def Ue (fk:Nat) (f:V) (t:Tr Obj) (K:List (V×V)→FR) (e:FR):FR:=
 La f (fun f fs cs=>aJ (and (Nat.beq f fk) (Nat.beq fs.length 0)) (l1 cs (fun p=>jr p (fun id off=>iP (id.get t) (fun _ _ _ cells=>jy ((bOf off).get cells) (fun m=>Az m (fun mid=>QY (mid.get t) (fun _ es=>K es) e) e) e) e) e) e) e) e
section
variable {P:Program} {T:Nat→TE} {w0:World} {ng:Nat}
theorem Iu {fk:Nat} {f:V} {t:Tr Obj} {K:List (V×V)→FR} {e r:FR} (h:Ue fk f t K e=r) (he:e≠r) :
  ∃ es,K es=r∧∀ g hp nx w x,HR T w0 ng g hp nx w→Sub t hp→RV g nx.num f x→∃ (p:Addr) (b:Nat) (ents:Array MapEntry) (clock:Nat),x = .func (.func fk) #[] #[.pointer (some p)]∧w.cell? p=some (.map (some b)) ∧
    w.heap[b]?=some (.map ents clock)∧ents.size=es.length∧(∀ (i:Nat) (m:MapEntry) (e:V×V),ents[i]?=some m→es[i]?=some e→RV g nx.num e.1 m.key)∧Stamped ents clock:=by
 obtain ⟨f',fs,cs,rfl,h⟩:=yx h he;obtain ⟨h1,h⟩:=aG h he;obtain ⟨h1,h2⟩:=aB h1;obtain ⟨p,rfl,h⟩:=ku h he;obtain ⟨id,off,rfl,h⟩:=jq h he;obtain ⟨ro,sz,hi,cells,hg,h⟩:=fK h he;obtain ⟨m,hm,h⟩:=eF h he;obtain ⟨mid,rfl,h⟩:=Aw h he;obtain ⟨kt,es,hmg,h⟩:=uP h he;refine ⟨es,h,fun g hp nx w x hr hs hx=>?_⟩;have e1:=Nat.eq_of_beq_eq_true h1;have e2:fs=[]:=List.eq_nil_of_length_eq_zero (Nat.eq_of_beq_eq_true h2);subst e1;subst e2;cases hx with
 | fn f fs cs vf vc q1 q2 q3 q4=>
   have v1:vf=#[]:=Array.eq_empty_of_size_eq_zero (by simpa using q1);subst v1;obtain ⟨c,rfl⟩:∃ c,vc=#[c]:=by
    match vc,q3 with
    | ⟨[c]⟩,_=>exact ⟨c,rfl⟩
   have hc:=q4 0 _ c rfl rfl;cases hc with
   | ptr id off hid=>
     obtain ⟨_,cur,Tb,fz,o1,o2,o3,o4,o5⟩:=hr.obj id _ (hs id _ hg);obtain ⟨_,u,u1,u2,_⟩:=o5 off _ hm;cases u2 with
     | map mid hmid=>
       obtain ⟨_,ents,clock,m1,m2,m3,m4,m5⟩:=hr.obj mid _ (hs mid _ hmg);refine ⟨_,_,ents,clock,rfl,?_,m1,m2,fun i m e a b=>(m3 i m e a b).1,m5⟩
       simpa [World.cell?,o1] using u1
theorem yG {g:Gh} {hp:B→Option Obj} {t:Tr Obj} {nx:B} {w w':World} (hng:ng≠0) (h:HR T w0 ng g hp nx w) (hs:Sub t hp) (hB:Below w.heap.size w w') {e sz n:Nat} {v:Value} {us:List Value} (hrow:w'.ownsRow w.heap.size e sz v n us) (hn:0<n) (hsz:0<sz)
  {vs:List V} (hv:RVL g nx.num vs us) (h1:∀ u∈us,u.oneCell'=true) :
  ∃ g' hp',Step T w0 ng g hp t nx w g' hp' (nx.put t (some (.blk false (n*sz) (n*sz) (fB vs .lf 0)))) nx.inc w'∧RV g' nx.inc.num (.sl nx sz 0 n none) v:=by
 obtain ⟨hul,h0 | ⟨gb,cap,cur,rfl,hbase,hgb,r1,r2,r3,r4⟩⟩:=hrow
 ·omega
 have st1:Step T w0 ng g hp t nx w g hp t nx w' := .idle h hs ⟨hB.os,hB.tape,hB.output,hB.size,fun e=>absurd e hng⟩ hB.block;have hfree:∀ id o,hp id=some o→(g id).b≠gb:=fun id o ho=>by
  have:=(h.obj id o ho).2.blk;omega
 have hmul:n*sz≤cap*sz:=Nat.mul_le_mul_right sz r1;have hnx:=B.fO nx;have hext:Ext g (dL g nx ⟨gb,0,cap*sz⟩) nx.num:=lC (Nat.le_refl _);have hgn:dL g nx ⟨gb,0,cap*sz⟩ nx=⟨gb,0,cap*sz⟩:=by simp [dL]
 have hreg:Reg T w0 ng gb g hp t nx w' (dL g nx ⟨gb,0,cap*sz⟩) (eX hp nx (some (.blk false (n*sz) (n*sz) (fB vs .lf 0)))) (nx.put t (some (.blk false (n*sz) (n*sz) (fB vs .lf 0)))) nx.inc:=by
  refine Reg.new st1.hr st1.sub (Nat.le_trans h.size hbase) hfree ⟨cur,e,(0,0),by rw [hgn];exact hgb,fun _=>rfl,by rw [hgn];simp [r3],by rw [hgn];exact hmul,fun j v hj=>?_⟩;rw [bY] at hj;split at hj
  ·rename_i hlt;rw [Nat.sub_zero] at hj;have hjl:j<us.length:=(by rw [hv.1];omega);refine ⟨by omega,us[j],?_,(hv.2 j v us[j] hj (List.getElem?_eq_getElem hjl)).mono hext (by omega),h1 _ (List.getElem_mem hjl)⟩;rw [hgn];show cur[0+j]?=_;rw [Nat.zero_add,← Array.getElem?_toList];have:(cur.toList.take (n*sz))[j]?=us[j]?:=(by rw [r4]);rw [List.getElem?_take_of_lt (by omega)] at this;rw [this,List.getElem?_eq_getElem hjl]
  ·rw [B.dO] at hj;cases hj
 refine ⟨_,_,st1.reg hreg hbase,?_⟩;exact .sl nx sz 0 n none _ cap (by omega) r1 r2 (fun k hk=>by cases hk) hsz (by rw [hgn];simp) (fun _=>by rw [hgn])
end
noncomputable def He (fk:Nat):Pre:=fun args t nx _=>
 l1 args (fun f=>Ue fk f t (fun es=>vX (sortV ltS (keysOf es)) fun L=>aJ (and (and (allB isS L) (LZ ltS L)) (Nat.ble L.length 1000000))
  (lnK L fun n=>isZero n (.ret .aj t nx) (l9 L .lf 0 fun cs=>nM n cs t nx fun t' nx' => .ret (.sl nx 1 0 n none) t' nx')) (.bad 401)) (.bad 402)) (.bad 403)
section
variable {T:Nat→TE} {w0:World} {ng:Nat}
theorem aeQ {v:V} (h:isS v=true):∃ l n,v = .str l n:=by
 obtain ⟨l,n,rfl,_⟩:=fJ h (by decide);exact ⟨l,n,rfl⟩
theorem G9 (hng:ng≠0):Ea Tryz.prog T w0 ng 326 (He 355):=by
 intro args t nx e v t' nx' h;have hb:∀ n,FR.bad n ≠ .ret v t' nx':=fun n h=>by cases h
 obtain ⟨f,rfl,h⟩:=ku h (hb _);obtain ⟨es,h,hkeys⟩:=Iu (T:=T) (w0:=w0) (ng:=ng) h (hb _);rw [jQ] at h;obtain ⟨hc,h⟩:=aG h (hb _);obtain ⟨hc1,hc2⟩:=aB hc;obtain ⟨ha,hpw⟩:=aB hc1;have hbig:=aY.1 hc2;unfold lnK at h;rw [aI,iU,dS,gy] at h;generalize hL:sortV ltS (keysOf es)=SV at *;have hperm:SV.Perm (es.map Prod.fst):=by rw [← hL,← keysOf_eq];exact ru _ _
 refine .inl (.inl ⟨⟨_,Tryz.func326,by kernel_rfl,rfl⟩,fun g hp w vs hr hs hrv=>?_⟩);obtain ⟨x,vs1,rfl,hx,hrv⟩:=hrv.inv;have:=hrv.jH;subst this;obtain ⟨p,b,ents,clock,rfl,hm,hbm,hsz,hrk,hst⟩:=hkeys g hp nx w x hr hs hx;have hkv:∀ i:Fin ents.size,∃ s:List UInt8,ents[i].key=encStr s∧(es.map Prod.fst)[i.1]?=some (.str s.length (aU s))∧s.length≤maxL:=fun i=>by
  have hi:i.1<es.length:=by rw [← hsz];exact i.2
  have h1:=hrk i.1 ents[i] es[i.1] (by simp) (by simp [hi]);have h2:es[i.1].1∈SV:=hperm.mem_iff.2 (List.mem_map.2 ⟨es[i.1],List.getElem_mem hi,rfl⟩);obtain ⟨l,n,h3⟩:=aeQ (uS ha _ h2);rw [h3] at h1;have h4:(es.map Prod.fst)[i.1]?=some (.str l n):=by rw [List.getElem?_map,List.getElem?_eq_getElem hi];simp [h3]
  revert h1;generalize ents[i].key=kk;intro h1;cases h1 with
  | str s hs=>exact ⟨s,rfl,h4,hs⟩
 obtain ⟨kv,hkv⟩:=Classical.axiomOfChoice hkv;have hmap:es.map Prod.fst=(List.finRange ents.size).map fun i=>V.str (kv i).length (aU (kv i)):=by
  apply List.ext_getElem?;intro i;by_cases hi:i<ents.size
  ·rw [(hkv ⟨i,hi⟩).2.1];simp [hi]
  ·rw [List.getElem?_eq_none (by simp;omega),List.getElem?_eq_none (by simp;omega)]
 obtain ⟨xs,hxp,hxs⟩:=yZ (fun i=>V.str (kv i).length (aU (kv i))) hperm _ hmap;have hpl:=zh hpw;have hlen:SV.length=(xs.map kv).length:=by rw [hxs];simp
 have hxl:xs.length=ents.size:=by rw [hxp.length_eq];simp
 have hcon:=Tryz.Jv p b ents clock kv (fun i=>(hkv i).1) hst w hm hbm (xs.map kv) (hxp.map kv).symm (by
  rw [hxs] at hpl;rw [List.pairwise_map] at hpl ⊢;refine hpl.imp fun {i j} hij=>?_
  have:strLt (kv i).length (aU (kv i)) (kv j).length (aU (kv j))=true:=hij;rw [lZ,bytesLess_eq,decide_eq_true_eq] at this
  exact List.le_of_lt this) (by rw [← hxl];simp at hlen;rw [← hlen];exact Nat.le_trans hbig (by decide)) (by rw [← hxl];simp at hlen;omega)
 refine hcon.mono ?_;rintro e w' ⟨v1,rfl,hrow,hB,hnil⟩;by_cases h0:SV.length=0
 ·rw [if_pos h0] at h;cases h;have hl0:xs.map kv=[]:=List.eq_nil_of_length_eq_zero (by rw [← hlen];exact h0);rw [hnil hl0];exact ⟨g,hp,_,rfl,.idle hr hs ⟨hB.os,hB.tape,hB.output,hB.size,fun e=>absurd e hng⟩ hB.block,.aj⟩
 rw [if_neg h0] at h;cases h
 obtain ⟨g',hp',st,hv⟩:=yG (vs:=SV) hng hr hs hB hrow (by rw [← hlen];omega) (by omega) (by
  rw [hxs];refine ⟨by simp,fun i c u hc hu=>?_⟩;rw [List.map_map,List.getElem?_map] at hu;rw [List.getElem?_map] at hc;cases hxi:xs[i]? with
  | none=>rw [hxi] at hc;cases hc
  | some y=>rw [hxi] at hc hu;cases hc;cases hu;exact .str _ (hkv y).2.2) (fun u hu=>by obtain ⟨y,_,rfl⟩:=List.mem_map.1 hu;rfl)
 rw [← hlen,Nat.mul_one] at st;rw [← hlen] at hv;exact ⟨g',hp',_,rfl,st,hv⟩
end
noncomputable def Vb {R:Type} (v:V) (K:Nat→Nat→Nat→Nat→Bool→R) (e:R):R:=
 asAgg v (fun cs=>l3 cs (fun a b c=>jo a (fun l n=>jo b (fun l' n'=>asBool c (fun c=>K l n l' n' c) e) e) e) e) e
noncomputable def isE (v:V):Bool:=Vb v (fun _ _ _ _ _=>true) false
noncomputable def ltE (u v:V):Bool:=Vb u (fun l n l' n' c=>Vb v (fun k m k' m' d=>or (strLt l n k m) (and (strEq l n k m) (or (strLt l' n' k' m') (and (strEq l' n' k' m') (and d (not c)))))) false) false
theorem aeR {v:V} (h:isE v=true):∃ l n l' n' c,v = .agg [.str l n,.str l' n',.bool c]:=by
 obtain ⟨cs,rfl,h⟩:=ni h (by decide);obtain ⟨a,b,c,rfl,h⟩:=NG h (by decide);obtain ⟨l,n,rfl,h⟩:=fJ h (by decide);obtain ⟨l',n',rfl,h⟩:=fJ h (by decide);obtain ⟨c,rfl,h⟩:=qy h (by decide);exact ⟨l,n,l',n',c,rfl⟩
noncomputable def fH (call:Cl) (f:Nat) (nx:B) (lt:Bool) (a b:V):Bool:=
 FR.rec (motive:=fun _=>Bool) (fun _=>false) (fun v _ _=>asInt v (fun k c=>and (Nat.beq (ikN k) 3) (aJ lt (ltI c 0) (not (ltI c 0)))) false) (call f [a,b] .lf nx)
theorem FX {call:Cl} {f:Nat} {nx:B} {lt:Bool} {a b:V} (h:fH call f nx lt a b=true):∃ c t' nx',call f [a,b] .lf nx = .ret (.int .i64 c) t' nx'∧(c<0↔lt=true):=by
 unfold fH at h;cases hc:call f [a,b] .lf nx with
 | bad n=>rw [hc] at h;cases h
 | ret v t' nx'=>
   rw [hc] at h;obtain ⟨k,c,rfl,h⟩:=dH (show asInt v _ false=true from h) (by decide);obtain ⟨h1,h2⟩:=aB h;have e:k = .i64:=jI (k' := .i64) h1;subst e;refine ⟨c,t',nx',rfl,?_⟩;rw [aQ] at h2;split at h2
   ·rename_i hl;rw [nN,decide_eq_true_eq] at h2;exact ⟨fun _=>hl,fun _=>h2⟩
   ·rename_i hl;rw [nN] at h2;have:¬ c<0:=(by simpa using h2);exact ⟨fun h=>absurd h this,fun h=>absurd h hl⟩
noncomputable def Hg (call:Cl) (fk gk:Nat):Pre:=fun args t nx _=>
 l2 args (fun f c=>La c (fun c fs cs=>aJ (and (Nat.beq c gk) (and (Nat.beq fs.length 0) (Nat.beq cs.length 0)))
  (Ue fk f t (fun es=>vX (sortV ltE (keysOf es)) fun L=>aJ (and (and (allB isE L) (and (LZ (fun a b=>and (fH call gk nx true a b) (fH call gk nx false b a)) L) (allB (fun a=>fH call gk nx false a a) L))) (and (Nat.blt 0 L.length) (Nat.ble L.length 12)))
   (lnK L fun n=>l9 (L.flatMap cellsOf) .lf 0 fun cs=>aT (Nat.mul n 3) fun m=>nM m cs t nx fun t' nx' => .ret (.sl nx 3 0 n none) t' nx') (.bad 411)) (.bad 412)) (.bad 413)) (.bad 414)) (.bad 415)
section
variable {T:Nat→TE} {w0:World} {ng:Nat}
theorem HR.zero {g:Gh} {hp:B→Option Obj} {nx:B} {w:World} (h:HR T w0 ng g hp nx w):HR T w0 0 g hp nx w:=
 ⟨h.os,h.tape,h.output,h.size,h.old,h.obj,h.sep,h.new,fun i hi=>absurd hi (Nat.not_lt_zero i),Nat.zero_le _⟩
theorem Gx {W W':World} (h1:W'.os=W.os) (h2:W'.tape=W.tape) (h3:W'.output=W.output) (h4:W.heap.size≤W'.heap.size) (h5:∀ b,b<W.heap.size→W'.heap[b]?=W.heap[b]?) (h6:W.drawn≤W'.drawn) :
  ∃ q os',W'=Sort.grow (W.drewN q) os':=by
 refine ⟨W'.drawn-W.drawn,W'.heap.extract W.heap.size W'.heap.size,?_⟩;have hh:W'.heap=W.heap++W'.heap.extract W.heap.size W'.heap.size:=by
  apply Array.ext_getElem?;intro i;by_cases hi:i<W.heap.size
  ·rw [Array.getElem?_append_left hi];exact h5 i hi
  ·rw [Array.getElem?_append_right (by omega),Array.getElem?_extract];by_cases hi':i<W'.heap.size
   ·rw [if_pos (by omega),show W.heap.size+(i-W.heap.size)=i by omega]
   ·rw [if_neg (by omega)];exact Array.getElem?_eq_none (by omega)
 have hd:W'.drawn=W.drawn+(W'.drawn-W.drawn):=by omega
 show W'={ heap:=W.heap++W'.heap.extract W.heap.size W'.heap.size,tape:=W.tape,drawn:=W.drawn+(W'.drawn-W.drawn),os:=W.os,output:=W.output };obtain ⟨a,b,c,d,e⟩:=W';simp only at h1 h2 h3 hh hd ⊢;rw [← hh,← hd,h1,h2,h3]
theorem Xn {g:Gh} {n:Nat} {l m l' m':Nat} {c:Bool} {x:Value} (h:RV g n (.agg [.str l m,.str l' m',.bool c]) x):∃ s:ou,x=lX s∧V.agg [.str l m,.str l' m',.bool c] = .agg [.str s.1.length (aU s.1),.str s.2.1.length (aU s.2.1),.bool s.2.2]∧s.1.length≤maxL∧s.2.1.length≤maxL:=by
 cases h with
 | agg cs vs q1 q2 q3=>
   obtain ⟨x,y,z,rfl⟩:∃ x y z,vs=#[x,y,z]:=by
    match vs,q1 with
    | ⟨[x,y,z]⟩,_=>exact ⟨x,y,z,rfl⟩
   have h1:=q2 0 _ x rfl rfl;have h2:=q2 1 _ y rfl rfl;have h3:=q2 2 _ z rfl rfl;cases h1 with
   | str s hs=>
   cases h2 with
   | str s' hs'=>
   cases h3 with
   | bool b=>exact ⟨(s,s',_),rfl,rfl,hs,hs'⟩
theorem Om {g:Gh} {n:Nat} (s:ou) (h1:s.1.length≤maxL) (h2:s.2.1.length≤maxL):RV g n (.agg [.str s.1.length (aU s.1),.str s.2.1.length (aU s.2.1),.bool s.2.2]) (lX s):=by
 have key:RVL g n [.str s.1.length (aU s.1),.str s.2.1.length (aU s.2.1),.bool s.2.2] [encStr s.1,encStr s.2.1,.bool s.2.2] := .cons (.str _ h1) (.cons (.str _ h2) (.cons (.bool _) .nil));refine .agg _ _ rfl (fun i c v hc hv=>key.2 i c v hc (by simpa using hv)) (fun i v hv=>?_);have:v∈cellsE s:=List.mem_iff_getElem?.2 ⟨i,by simpa [cellsE] using hv⟩;exact nT s v this
theorem Hf (hng:ng≠0) {call:Cl} (hc0:jd Tryz.prog T w0 0 call):Ea Tryz.prog T w0 ng 264 (Hg call 324 266):=by
 intro args t nx e v t' nx' h;have hb:∀ n,FR.bad n ≠ .ret v t' nx':=fun n h=>by cases h
 obtain ⟨f,cm,rfl,h⟩:=lq h (hb _);obtain ⟨c,fs,cs,rfl,h⟩:=yx h (hb _);obtain ⟨hcc,h⟩:=aG h (hb _);obtain ⟨hcg,hcc2⟩:=aB hcc;obtain ⟨hcf,hcs⟩:=aB hcc2;have hcg:=Nat.eq_of_beq_eq_true hcg;clear hcc hcc2;obtain rfl:fs=[]:=List.eq_nil_of_length_eq_zero (Nat.eq_of_beq_eq_true hcf);obtain rfl:cs=[]:=List.eq_nil_of_length_eq_zero (Nat.eq_of_beq_eq_true hcs);subst hcg;obtain ⟨es,h,hkeys⟩:=Iu (T:=T) (w0:=w0) (ng:=ng) h (hb _);rw [jQ] at h;obtain ⟨hc,h⟩:=aG h (hb _);obtain ⟨hc1,hc2⟩:=aB hc;obtain ⟨ha,hpw⟩:=aB hc1;obtain ⟨hpw,hrf⟩:=aB hpw;obtain ⟨h0,hbig⟩:=aB hc2;have h0:=aN.1 h0;have hbig:=aY.1 hbig;unfold lnK at h;rw [aI,dS,aI,gy] at h;cases h;generalize hL:sortV ltE (keysOf es)=SV at *;have hperm:SV.Perm (es.map Prod.fst):=by rw [← hL,← keysOf_eq];exact ru _ _
 refine .inl (.inl ⟨⟨_,Tryz.func264,by kernel_rfl,rfl⟩,fun g hp w vs hr hs hrv=>?_⟩);obtain ⟨x,vs1,rfl,hx,hrv⟩:=hrv.inv;obtain ⟨y,vs2,rfl,hy,hrv⟩:=hrv.inv;have:=hrv.jH;subst this;obtain ⟨p,b,ents,clock,rfl,hm,hbm,hsz,hrk,hst⟩:=hkeys g hp nx w x hr hs hx;obtain rfl:y = .func (.func 266) #[] #[]:=by
  cases hy with
  | fn f fs cs vf vc q1 q2 q3 q4=>
    have e1:vf=#[]:=Array.eq_empty_of_size_eq_zero (by simpa using q1);have e2:vc=#[]:=Array.eq_empty_of_size_eq_zero (by simpa using q3);rw [e1,e2]
 let vE:ou→V:=fun s => .agg [.str s.1.length (aU s.1),.str s.2.1.length (aU s.2.1),.bool s.2.2]
 have hkv:∀ i:Fin ents.size,∃ s:ou,ents[i].key=lX s∧(es.map Prod.fst)[i.1]?=some (vE s)∧s.1.length≤maxL∧s.2.1.length≤maxL:=fun i=>by
  have hi:i.1<es.length:=by rw [← hsz];exact i.2
  have h1:=hrk i.1 ents[i] es[i.1] (by simp) (by simp [hi]);have h2:es[i.1].1∈SV:=hperm.mem_iff.2 (List.mem_map.2 ⟨es[i.1],List.getElem_mem hi,rfl⟩);obtain ⟨l,n,l',n',c,h3⟩:=aeR (uS ha _ h2);rw [h3] at h1;obtain ⟨s,s1,s2,s3,s4⟩:=Xn h1;exact ⟨s,s1,by rw [List.getElem?_map,List.getElem?_eq_getElem hi];simp only [Option.map_some,h3];exact congrArg some s2,s3,s4⟩
 obtain ⟨kv,hkv⟩:=Classical.axiomOfChoice hkv;have hmap:es.map Prod.fst=(List.finRange ents.size).map fun i=>vE (kv i):=by
  apply List.ext_getElem?;intro i;by_cases hi:i<ents.size
  ·rw [(hkv ⟨i,hi⟩).2.1];simp [hi]
  ·rw [List.getElem?_eq_none (by simp;omega),List.getElem?_eq_none (by simp;omega)]
 obtain ⟨xs,hxp,hxs⟩:=yZ (fun i=>vE (kv i)) hperm _ hmap;have hpl:=zh hpw;have hrl:=uS hrf;obtain ⟨L,hLd⟩:∃ L,xs.map kv=L:=⟨_,rfl⟩
 have hSL:SV=L.map vE:=by rw [← hLd,List.map_map];exact hxs
 have hlen:SV.length=L.length:=by rw [hSL];simp
 have hget:∀ i:Fin L.length,(L.get i).1.length≤maxL∧(L.get i).2.1.length≤maxL:=fun i=>by
  have:L.get i∈xs.map kv:=by rw [hLd];exact List.get_mem L i
  obtain ⟨j,_,hj⟩:=List.mem_map.1 this;rw [← hj];exact (hkv j).2.2
 have hcmp:∀ i j:Fin L.length,∃ c t1 nx1,call 266 [vE (L.get i),vE (L.get j)] .lf nx = .ret (.int .i64 c) t1 nx1∧(c<0↔i<j):=fun i j=>by
  rw [hSL,List.pairwise_map,List.pairwise_iff_getElem] at hpl;rcases Nat.lt_trichotomy i.1 j.1 with hij | hij | hij
  ·obtain ⟨h1,_⟩:=aB (hpl i.1 j.1 i.2 j.2 hij);obtain ⟨c,t1,nx1,h2,h3⟩:=FX h1;exact ⟨c,t1,nx1,h2,by rw [h3];exact ⟨fun _=>hij,fun _=>rfl⟩⟩
  ·obtain rfl:i=j:=Fin.ext hij;obtain ⟨c,t1,nx1,h2,h3⟩:=FX (hrl (vE (L.get i)) (by rw [hSL];exact List.mem_map.2 ⟨_,List.get_mem L i,rfl⟩));exact ⟨c,t1,nx1,h2,by rw [h3];simp⟩
  ·obtain ⟨_,h1⟩:=aB (hpl j.1 i.1 j.2 i.2 hij);obtain ⟨c,t1,nx1,h2,h3⟩:=FX h1;exact ⟨c,t1,nx1,h2,by rw [h3];simp;omega⟩
 have hcmp':∀ ij:Fin L.length×Fin L.length,∃ c:Int,∃ t1 nx1,call 266 [vE (L.get ij.1),vE (L.get ij.2)] .lf nx = .ret (.int .i64 c) t1 nx1∧(c<0↔ij.1<ij.2):=fun ij=>hcmp ij.1 ij.2
 obtain ⟨cf,hcf⟩:=Classical.axiomOfChoice hcmp';have hcon:=Tryz.GR p b ents clock kv (fun i=>(hkv i).1) hst w hm hbm L (by rw [← hLd];exact (hxp.map kv).symm) (by rw [← hlen];exact h0) (by rw [← hlen];exact hbig) 266
  (enters_of Tryz.func266 (by kernel_rfl) rfl) (fun i j=>cf (i,j)) (fun i j=>by obtain ⟨t1,nx1,_,h⟩:=hcf (i,j);exact h) (fun W hW i j=>by
   obtain ⟨t1,nx1,h1,_⟩:=hcf (i,j);have hrW:HR T w0 ng g hp nx W:=(Step.idle hr hs ⟨hW.os,hW.tape,hW.output,hW.size,fun e=>absurd e hng⟩ hW.block).hr;have hv2:RVL g nx.num [vE (L.get i),vE (L.get j)] [lX (L.get i),lX (L.get j)] := .cons (Om _ (hget i).1 (hget i).2) (.cons (Om _ (hget j).1 (hget j).2) .nil);rcases hc0 _ _ _ _ _ _ _ h1 with ⟨_,h2⟩ | ⟨_,_,⟨fn,h3,h4⟩,_⟩
   ·refine (h2 g hp W _ hrW.zero (fun id o ho=>by rw [B.dO] at ho;cases ho) hv2).mono ?_;rintro e w' ⟨g',hp',val,rfl,st,hv⟩;refine ⟨by cases hv;rfl,Gx (st.hr.os.trans hrW.os.symm) (st.hr.tape.trans hrW.tape.symm) (st.hr.output.trans hrW.output.symm) st.sz (fun b hb=>st.un b hb fun id o ho=>by rw [B.dO] at ho;cases ho) (st.dr rfl)⟩
   ·rw [Tryz.func266] at h3;cases h3
    exact absurd h4 (by decide))
 refine hcon.mono ?_;rintro e w' ⟨v,rfl,hrow,hB⟩;have hcells:SV.flatMap cellsOf=L.flatMap fun s=>[V.str s.1.length (aU s.1),.str s.2.1.length (aU s.2.1),.bool s.2.2]:=by
  rw [hSL,List.flatMap_map];rfl
 obtain ⟨g',hp',st,hv⟩:=yG (vs:=SV.flatMap cellsOf) hng hr hs hB hrow (by rw [← hlen];exact h0) (by omega) (by
  rw [hcells];have:∀ l:List ou,(∀ s∈l,s.1.length≤maxL∧s.2.1.length≤maxL)→RVL g nx.num (l.flatMap fun s=>[V.str s.1.length (aU s.1),.str s.2.1.length (aU s.2.1),.bool s.2.2]) (l.flatMap cellsE):=by
   intro l hl
   induction l with
   | nil=>exact .nil
   | cons s l ih=>
     rw [List.flatMap_cons,List.flatMap_cons];exact .append (.cons (.str _ (hl s (by simp)).1) (.cons (.str _ (hl s (by simp)).2) (.cons (.bool _) .nil))) (ih fun s hs=>hl s (by simp [hs]))
  exact this L fun s hs=>by
   obtain ⟨i,hi,rfl⟩:=List.mem_iff_getElem.1 hs
   exact hget ⟨i,hi⟩) (fun u hu=>by obtain ⟨s,_,hs⟩:=List.mem_flatMap.1 hu;exact nT s u hs)
 rw [← hlen] at st hv;exact ⟨g',hp',_,rfl,st,hv⟩
end
end Go.Sim
namespace Go.Sim
open Go Go.RowKit
open Go.Abs (TE TK SK TOK patch)
section
variable {P:Program} {T:Nat→TE} {w0:World} {ng:Nat}
theorem HR.know {g:Gh} {hp:B→Option Obj} {nx:B} {w:World} (h:HR T w0 ng g hp nx w) {a:B} {ro:Bool} {s s' hi:Nat} {cs:Tr V} (ha:hp a=some (.blk ro s hi cs)) (hs:s'≤(g a).n):HR T w0 ng g (eX hp a (some (.blk ro s' hi cs))) nx w:=by
 have key:∀ i o,eX hp a (some (.blk ro s' hi cs)) i=some o→∃ o',hp i=some o'∧o.ro=o'.ro:=fun i o ho=>by
  unfold eX at ho;split at ho
  ·rename_i e;subst e;cases ho;exact ⟨_,ha,rfl⟩
  ·exact ⟨o,ho,rfl⟩
 refine ⟨h.os,h.tape,h.output,h.size,h.old,fun i o ho=>?_,fun i i' o o' ho ho' hne hro=>?_,fun i o ho hro=>?_,h.glob,h.ngx⟩
 ·unfold eX at ho;split at ho
  ·rename_i e;subst e;cases ho;obtain ⟨h1,cur,Tb,fz,e1,e2,e3,e4,e5⟩:=h.obj i _ ha;exact ⟨h1,cur,Tb,fz,e1,e2,e3,hs,e5⟩
  ·exact h.obj i o ho
 ·obtain ⟨p,p1,p2⟩:=key i o ho;obtain ⟨q,q1,q2⟩:=key i' o' ho';exact h.sep i i' p q p1 q1 hne (by rw [← p2];exact hro)
 ·obtain ⟨p,p1,p2⟩:=key i o ho;exact h.new i p p1 (by rw [← p2];exact hro)
theorem Step.from {g g':Gh} {hp hp':B→Option Obj} {t t':Tr Obj} {nx nx':B} {w w':World} {a:B} {s s' hi:Nat} {cs:Tr V} (ha:a.get t=some (.blk false s hi cs))
  (h:Step T w0 ng g (eX hp a (some (.blk false s' hi cs))) (a.put t (some (.blk false s' hi cs))) nx w g' hp' t' nx' w'):Step T w0 ng g hp t nx w g' hp' t' nx' w':=by
 have dom:∀ i:B,i.get t=none→i.get (a.put t (some (.blk false s' hi cs)))=none:=fun i hi=>by
  rw [B.get_put,if_neg (fun e=>by rw [e,ha] at hi;cases hi)];exact hi
 have ob:∀ (i:B) o,i.get (a.put t (some (.blk false s' hi cs)))=some o→∃ o1,i.get t=some o1∧o1.ro=o.ro:=fun i o ho=>by
  rw [B.get_put] at ho;split at ho
  ·rename_i e;subst e;cases ho;exact ⟨_,ha,rfl⟩
  ·exact ⟨o,ho,rfl⟩
 refine ⟨h.ext,h.le,h.hr,h.sub,fun i hi hn=>?_,fun i hi hn=>h.dm i hi (dom i hn),h.sz,h.dr,fun b hb hn=>h.un b hb fun i o h1 h2=>?_,fun i o h1 h2=>?_,fun i o h1 h2=>?_⟩
 ·rw [h.fr i hi (dom i hn)];unfold eX;rw [if_neg (fun e=>by rw [e,ha] at hn;cases hn)]
 ·obtain ⟨o1,q1,q2⟩:=ob i o h1;exact hn i o1 q1 (by rw [q2];exact h2)
 ·rcases h.pl i o h1 h2 with q | ⟨i0,o0,q1,q2,q3⟩
  ·exact .inl q
  ·obtain ⟨o1,r1,r2⟩:=ob i0 o0 q1;exact .inr ⟨i0,o1,r1,by rw [r2];exact q2,q3⟩
 ·rcases h.pl2 i o h1 h2 with q | ⟨i0,o0,q1,q2⟩
  ·exact .inl q
  ·obtain ⟨o1,r1,r2⟩:=ob i0 o0 q1;exact .inr ⟨i0,o1,r1,q2⟩
theorem FO.In.ro {fo:FO} {o:Obj} (h:fo.In o):fo.obj.ro=o.ro:=by cases h<;>rfl
theorem FO.In.XE {fo:FO} {o:Obj} (h:fo.In o) {g:Gh} {n:Nat} {w:World} {id:B} (hr:kJ T g n w id o):kJ T g n w id fo.obj:=by
 cases h with
 | map kt es=>exact hr
 | blk ro sz sz' hi cs cs' h1 h2=>
   obtain ⟨cur,Tb,fz,e1,e2,e3,e4,e5⟩:=hr;refine ⟨cur,Tb,fz,e1,e2,e3,Nat.le_trans h1 e4,fun j v hj=>?_⟩;rw [bY] at hj;split at hj
   ·rename_i hlt;rw [Nat.sub_zero] at hj;exact ⟨by omega,(e5 j v (h2 j v hj)).2⟩
   ·rw [B.dO] at hj;cases hj
open Classical in
theorem Step.less {g g':Gh} {hp hp':B→Option Obj} {t t' t'':Tr Obj} {nx nx':B} {w w':World} (h:Step T w0 ng g hp t nx w g' hp' t' nx' w') (hs:∀ (i:B) o,i.get t''=some o→∃ (fo:FO) (o':Obj),o=fo.obj∧i.get t'=some o'∧fo.In o') :
  ∃ hp'',Step T w0 ng g hp t nx w g' hp'' t'' nx' w':=by
 have hnone:∀ i:B,i.get t'=none→i.get t''=none:=fun i hi=>by
  cases h1:i.get t'' with
  | none=>rfl
  | some o=>obtain ⟨_,o',_,h2,_⟩:=hs i o h1;rw [hi] at h2;cases h2
 let hp'':B→Option Obj:=fun i=>if (i.get t').isSome then i.get t'' else hp' i
 have key:∀ i o,hp'' i=some o→(∃ (fo:FO) (o':Obj),o=fo.obj∧hp' i=some o'∧fo.In o')∨hp' i=some o:=fun i o ho=>by
  have ho:(if (i.get t').isSome then i.get t'' else hp' i)=some o:=ho;split at ho
  ·obtain ⟨fo,o',h1,h2,h3⟩:=hs i o ho;exact .inl ⟨fo,o',h1,h.sub i o' h2,h3⟩
  ·exact .inr ho
 have keyro:∀ i o,hp'' i=some o→∃ o',hp' i=some o'∧o'.ro=o.ro:=fun i o ho=>by
  rcases key i o ho with ⟨fo,o',h1,h2,h3⟩ | h1
  ·exact ⟨o',h2,by rw [h1,h3.ro]⟩
  ·exact ⟨o,h1,rfl⟩
 refine ⟨hp'',h.ext,h.le,⟨h.hr.os,h.hr.tape,h.hr.output,h.hr.size,h.hr.old,fun i o ho=>?_,fun i i' o o' ho ho' hne hro=>?_,fun i o ho hro=>?_,h.hr.glob,h.hr.ngx⟩,fun i o ho=>?_,fun i hi hn=>?_,fun i hi hn=>hnone i (h.dm i hi hn),h.sz,h.dr,h.un,fun i o h1 h2=>?_,fun i o h1 h2=>?_⟩
 ·rcases key i o ho with ⟨fo,o',h1,h2,h3⟩ | h1
  ·obtain ⟨q1,q2⟩:=h.hr.obj i o' h2;exact ⟨q1,by rw [h1];exact h3.XE q2⟩
  ·exact h.hr.obj i o h1
 ·obtain ⟨p,p1,p2⟩:=keyro i o ho;obtain ⟨q,q1,q2⟩:=keyro i' o' ho';exact h.hr.sep i i' p q p1 q1 hne (by rw [p2];exact hro)
 ·obtain ⟨p,p1,p2⟩:=keyro i o ho;exact h.hr.new i p p1 (by rw [p2];exact hro)
 ·obtain ⟨fo,o',h1,h2,h3⟩:=hs i o ho;show (if (i.get t').isSome then i.get t'' else hp' i)=some o;rw [if_pos (by rw [h2];rfl)];exact ho
 ·show (if (i.get t').isSome then i.get t'' else hp' i)=hp i;rw [if_neg (by rw [h.dm i hi hn];simp)];exact h.fr i hi hn
 ·obtain ⟨fo,o',q1,q2,q3⟩:=hs i o h1;exact h.pl i o' q2 (by rw [← q3.ro,← q1];exact h2)
 ·obtain ⟨o',q1,q2⟩:=keyro i o h1;exact h.pl2 i o' q1 h2
theorem Qm {g:Gh} {hp:B→Option Obj} {t:Tr Obj} {nx:B} {w:World} (h:HR T w0 ng g hp nx w) (hs:Sub t hp) {id:B} {s0 hi:Nat} {cs:Tr V} (hg:id.get t=some (.blk false s0 hi cs)) {sz off len:Nat} {cap:Option Nat} {cs0:Tr V} {val:Value}
  (hold:∀ j v,(bOf j).get cs0=some v→j<len*sz∧(bOf (off+j)).get cs=some v) (hv:RV g nx.num (.sl id sz off len cap) val) :
  ∃ g' hp',Step T w0 ng g hp t nx w g' hp' (nx.put (id.put t none) (some (.blk false (len*sz) (len*sz) cs0))) nx.inc w∧RV g' nx.inc.num (.sl nx sz 0 len none) val:=by
 obtain ⟨cur,Tb,fz,e1,e2,e3,e4,e5⟩:=h.blk hs hg;have hfz:=e2 rfl;subst hfz;cases hv with
 | sl _ _ _ _ _ a c q1 q2 q3 q4 q5 q6 q7=>
   obtain ⟨g',hp',st,hr⟩:=zy (T:=T) (w0:=w0) (ng:=ng) h hs hg (sz:=sz) (off:=off) (len:=len) (m:=0) (cs0:=cs0) (ys:=[]) (news:=[]) (c:=c) (a:=a) hold (by simp) (by simp) (fun i c x hc=>by simp at hc) q2 q3 q5 q6 q7 e1;have hw:w.setRow (g id).b (patch cur ((g id).o+off+len*sz) [])=w:=by
    have:patch cur ((g id).o+off+len*sz) []=cur:=(by simp [patch]);rw [this];exact setRow_self w (g id).b cur Tb (0,0) e1
   rw [hw] at st;exact ⟨g',hp',st,hr⟩
end
noncomputable def fU (sz off len a s0:Nat) (cells:List V) (rest:List V) (others:List (Nat×FO)) (news:List V) (m:Nat):Fact:=
 ⟨.sl ⟨a⟩ sz off len none::rest,(a,.blk false s0 cells)::others,m,.sl ⟨m⟩ sz 0 (Nat.succ len) none,[a],others.map (·.1),[(m,.blk false (Nat.mul (Nat.succ len) sz) news)],Nat.succ m⟩
noncomputable def XY (sz len m:Nat) (others:List (Nat×FO)) (news:List V) (r:FR):Bool:=FR.rec (motive:=fun _=>Bool) (fun _=>false) (fun v t nx=>
 and (mZ v (fun id sz' off' len' _=>and (and (Nat.beq id.n m) (Nat.beq sz' sz)) (and (Nat.beq off' 0) (Nat.beq len' (Nat.succ len)))) false)
  (and (Nat.beq nx.n (Nat.succ m)) (and (inO (.blk false (Nat.mul (Nat.succ len) sz) news) ((bOf m).get t)) (List.all others fun x=>inO x.2 ((bOf x.1).get t))))) r
noncomputable def XW (sz off len a m:Nat) (others:List (Nat×FO)) (news:List V) (r:FR):Bool:=FR.rec (motive:=fun _=>Bool) (fun _=>false) (fun v t nx=>
 and (mZ v (fun id sz' off' len' _=>and (and (Nat.beq id.n a) (Nat.beq sz' sz)) (and (Nat.beq off' off) (Nat.beq len' (Nat.succ len)))) false)
  (and (Nat.beq nx.n m) (and (iP ((bOf a).get t) (fun ro _ _ cs=>and (not ro) (X0 cs news off)) false) (List.all others fun x=>inO x.2 ((bOf x.1).get t))))) r
noncomputable def gG (T:Nat→TE) (FF:Nat→Option FC) (ng N n f:Nat) (sz off len a:Nat) (cells rest:List V) (others:List (Nat×FO)) (news:List V) (m:Nat):Bool:=
 Qh ((a,.blk false (Nat.add off (Nat.mul len sz)) cells)::others) .lf fun t=>XY sz len m others news (qV T FF ng N n f (.sl ⟨a⟩ sz off len (some len)::rest) t ⟨m⟩)
noncomputable def gB (T:Nat→TE) (FF:Nat→Option FC) (ng N n f:Nat) (sz off len a:Nat) (cells rest:List V) (others:List (Nat×FO)) (news:List V) (m d d':Nat):Bool:=
 Qh ((a,.blk false (Nat.add d' (Nat.add off (Nat.mul (Nat.succ len) sz))) cells)::others) .lf fun t=>XW sz off len a m others news (qV T FF ng N n f (.sl ⟨a⟩ sz off len (some (Nat.add d (Nat.succ len)))::rest) t ⟨m⟩)
noncomputable def gV (ng sz len a m:Nat) (others:List (Nat×FO)) (news:List V):Bool:=
 and (and (Nat.ble ng m) (Nat.blt a m)) (and (and (not (jX a (others.map (·.1)))) (List.all others fun x=>Nat.blt x.1 m)) (and (Nat.blt 0 sz) (and (Nat.beq news.length (Nat.mul (Nat.succ len) sz)) (Qh others .lf fun t=>List.all others fun x=>inO x.2 ((bOf x.1).get t)))))
section
variable {P:Program} {T:Nat→TE} {w0:World} {ng:Nat}
theorem vJ {a:Nat} {fo:FO} {others:List (Nat×FO)} (h:jX a (others.map (·.1))=false):∀ (t:Tr Obj),(bOf a).get (eY ((a,fo)::others) t)=some fo.obj∧∀ i:B,i≠bOf a→i.get (eY ((a,fo)::others) t)=i.get (eY others t):=by
 have hn:∀ fo',(a,fo')∉others:=fun fo' hm=>by
  have:jX a (others.map (·.1))=true:=fF.2 (List.mem_map.2 ⟨_,hm,rfl⟩);rw [h] at this;cases this
 have stay:∀ (l:List (Nat×FO)) (t:Tr Obj) (i:B),(∀ fo',(i.num,fo')∉l)→i.get (eY l t)=i.get t:=by
  intro l
  induction l with
  | nil=>intro t i _;rfl
  | cons x l ih=>
    intro t i hi;show i.get (eY l ((bOf x.1).put t (some x.2.obj)))=_;rw [ih _ i (fun fo' hm=>hi fo' (List.mem_cons_of_mem _ hm)),B.get_put,if_neg];intro e;exact hi x.2 (by rw [e];exact List.mem_cons_self)
 have cong:∀ (l:List (Nat×FO)) (t t':Tr Obj) (i:B),i.get t=i.get t'→i.get (eY l t)=i.get (eY l t'):=by
  intro l
  induction l with
  | nil=>intro t t' i h;exact h
  | cons x l ih=>
    intro t t' i h;refine ih _ _ i ?_;rw [B.get_put,B.get_put,h]
 intro t;refine ⟨?_,fun i hi=>?_⟩
 ·show (bOf a).get (eY others ((bOf a).put t (some fo.obj)))=_;rw [stay others _ (bOf a) hn,B.bU]
 ·exact cong others _ t i (B.iZ _ _ _ _ hi)
theorem Dj {g:Gh} {hp:B→Option Obj} {nx:B} {w:World} {a s0:Nat} {cells:List V} {others:List (Nat×FO)} (hm:jX a (others.map (·.1))=false) (h1:HR T w0 ng g hp nx w) (h2:Sub (eY ((a,.blk false s0 cells)::others) .lf) hp) {s':Nat} (hs:s'≤(g (bOf a)).n) :
  HR T w0 ng g (eX hp (bOf a) (some (.blk false s' cells.length (fB cells .lf 0)))) nx w∧Sub (eY ((a,.blk false s' cells)::others) .lf) (eX hp (bOf a) (some (.blk false s' cells.length (fB cells .lf 0)))) ∧
  ∀ {g' hp' t' nx' w'},Step T w0 ng g (eX hp (bOf a) (some (.blk false s' cells.length (fB cells .lf 0)))) (eY ((a,.blk false s' cells)::others) .lf) nx w g' hp' t' nx' w'→Step T w0 ng g hp (eY ((a,.blk false s0 cells)::others) .lf) nx w g' hp' t' nx' w':=by
 obtain ⟨a1,a2⟩:=vJ (fo := .blk false s0 cells) hm .lf;obtain ⟨b1,b2⟩:=vJ (fo := .blk false s' cells) hm .lf;have ha:=h2 _ _ a1;have heq:∀ i:B,i.get (eY ((a,.blk false s' cells)::others) .lf)=i.get ((bOf a).put (eY ((a,.blk false s0 cells)::others) .lf) (some (.blk false s' cells.length (fB cells .lf 0)))):=fun i=>by
  rw [B.get_put];split
  ·rename_i e;subst e;exact b1
  ·rename_i e;rw [b2 i e,a2 i e]
 refine ⟨h1.know ha hs,fun i o ho=>?_,fun {g' hp' t' nx' w'} st=>Step.from a1 (s':=s') ?_⟩
 ·rw [heq,B.get_put] at ho;unfold eX;split at ho
  ·rename_i e;subst e;rw [if_pos rfl];exact ho
  ·rename_i e;rw [if_neg e];exact h2 i o ho
 ·refine ⟨st.ext,st.le,st.hr,st.sub,fun i hi hn=>st.fr i hi (by rw [heq];exact hn),fun i hi hn=>st.dm i hi (by rw [heq];exact hn),st.sz,st.dr,fun b hb hn=>st.un b hb fun i o q1 q2=>hn i o (by rw [← heq];exact q1) q2,fun i o q1 q2=>?_,fun i o q1 q2=>?_⟩
  ·rcases st.pl i o q1 q2 with q | ⟨i0,o0,r1,r2,r3⟩
   ·exact .inl q
   ·exact .inr ⟨i0,o0,by rw [← heq];exact r1,r2,r3⟩
  ·rcases st.pl2 i o q1 q2 with q | ⟨i0,o0,r1,r2⟩
   ·exact .inl q
   ·exact .inr ⟨i0,o0,by rw [← heq];exact r1,r2⟩
theorem aZ (hT:TOK P T) {FF:Nat→Option FC} (hF:dY P T w0 ng FF) {N n f:Nat} (hb:∃ fn,P.funcs[f]?=some fn∧(fn.name == "runtime.NumGoroutine")=false∧fn.body.isNone=false) {sz off len a s0 m:Nat} {cells rest news:List V} {others:List (Nat×FO)}
  (hn:gV ng sz len a m others news=true) (hA:gG T FF ng N n f sz off len a cells rest others news m=true) (hB:∀ d d',gB T FF ng N n f sz off len a cells rest others news m d d'=true) :
  bD P T w0 ng f (fU sz off len a s0 cells rest others news m):=by
 obtain ⟨n1,n2⟩:=aB hn;obtain ⟨n3,n4⟩:=aB n1;obtain ⟨n5,n6⟩:=aB n2;obtain ⟨n7,n8⟩:=aB n5;obtain ⟨n9,n11⟩:=aB n6;obtain ⟨n10,n12⟩:=aB n11;rw [tK] at n12;have hng:=aY.1 n3;have ham:=aN.1 n4;have hpos:=aN.1 n9;have hnl:news.length=(len+1)*sz:=beq_iff.1 n10;have hmem:jX a (others.map (·.1))=false:=by simpa using n7
 have hlow:∀ x∈others,x.1<m:=fun x hx=>aN.1 (List.all_eq_true.1 n8 x hx)
 have hne:∀ x∈others,x.1≠a:=fun x hx e=>by
  have:jX a (others.map (·.1))=true:=fF.2 (List.mem_map.2 ⟨x,hx,e⟩);rw [hmem] at this;cases this
 let t0:=eY ((a,.blk false s0 cells)::others) .lf
 let tE:Tr Obj:=(bOf m).put ((bOf a).put t0 none) (some (FO.blk false (Nat.mul (Nat.succ len) sz) news).obj)
 obtain ⟨a1,a2⟩:=vJ (fo := .blk false s0 cells) hmem .lf;have tE_get:∀ (i:B) o,i.get tE=some o→(i=bOf m∧o=(FO.blk false (Nat.mul (Nat.succ len) sz) news).obj)∨(i≠bOf m∧i≠bOf a∧∃ x∈others,i=bOf x.1∧o=x.2.obj):=fun i o ho=>by
  have ho:i.get ((bOf m).put ((bOf a).put t0 none) (some (FO.blk false (Nat.mul (Nat.succ len) sz) news).obj))=some o:=ho;rw [B.get_put] at ho;split at ho
  ·rename_i e;exact .inl ⟨e,(Option.some.inj ho).symm⟩
  ·rename_i e;rw [B.get_put] at ho;split at ho
   ·cases ho
   ·rename_i e2;have ho:i.get (eY ((a,.blk false s0 cells)::others) .lf)=some o:=ho;rw [a2 i e2] at ho;rcases tJ others .lf i o ho with ⟨fo,h1,h2⟩ | h1
    ·exact .inr ⟨e,e2,(i.num,fo),h1,rfl,h2⟩
    ·rw [B.dO] at h1;cases h1
 refine ⟨hng,Nat.le_succ m,fun x hx=>?_,fun i hi=>?_,fun x hx=>?_,tE,?_,fun x hx=>?_,fun x hx hxs=>?_⟩
 ·rcases List.mem_cons.1 hx with rfl | hx
  ·exact .inl List.mem_cons_self
  ·exact .inr (List.mem_map.2 ⟨x,hx,rfl⟩)
 ·have:i=a:=by simpa [fU] using hi
  subst this;exact ⟨_,List.mem_cons_self⟩
 ·have:x=(m,.blk false (Nat.mul (Nat.succ len) sz) news):=by simpa [fU] using hx
  subst this;exact .inl (Nat.le_refl _)
 ·
  obtain ⟨fn,b1,b2,b3⟩:=hb;refine ⟨⟨fn,b1,b2,b3⟩,fun g hp w vs h1 h2 h3=>?_⟩;obtain ⟨x,vs',rfl,hx,hrest⟩:=RVL.inv (show RVL g m (.sl ⟨a⟩ sz off len none::rest) vs from h3);obtain ⟨ax,c,rfl,q1,q2,q3,q4,q5,q6,q7⟩:=hx.sG;have hxc:RV g m (.sl ⟨a⟩ sz off len (some c)) (.slice ax len c) := .sl ⟨a⟩ sz off len (some c) ax c q1 q2 q3 (fun k hk=>(Option.some.inj hk)) q5 q6 q7;have calls:∀ {args:List V} {tC:Tr Obj} {v:V} {t1:Tr Obj} {nx1:B},qV T FF ng N n f args tC ⟨m⟩ = .ret v t1 nx1→pU P T w0 ng f args tC ⟨m⟩ v t1 nx1:=fun h=>by
   rcases uK hT hF N n f _ _ _ _ _ _ h with h | ⟨_,_,⟨fn',r1,r2⟩,_⟩
   ·exact h
   ·rw [b1] at r1;cases r1;rw [b3] at r2;cases r2
  have hin:∀ {t1:Tr Obj},(List.all others fun x=>inO x.2 ((bOf x.1).get t1))=true→∀ x∈others,∃ o',(bOf x.1).get t1=some o'∧x.2.In o':=fun h x hx=>zL (List.all_eq_true.1 h x hx)
  rcases Nat.lt_or_ge len c with hlt | hge
  ·
   obtain ⟨d,hd⟩:∃ d,c=d+(len+1):=⟨c-(len+1),by omega⟩
   have hmulc:(len+1)*sz≤c*sz:=Nat.mul_le_mul_right _ hlt;obtain ⟨d',hd'⟩:∃ d',off+c*sz=d'+(off+(len+1)*sz):=⟨off+c*sz-(off+(len+1)*sz),by omega⟩
   have hB:=hB d d';unfold gB at hB;rw [tK] at hB;obtain ⟨k1,k2,k3⟩:=Dj (T:=T) (w0:=w0) (ng:=ng) (cells:=cells) hmem h1 h2 (s':=off+c*sz) q6;have e1:Nat.add d (Nat.succ len)=c:=hd.symm;have e2:Nat.add d' (Nat.add off (Nat.mul (Nat.succ len) sz))=off+c*sz:=hd'.symm;rw [e1,e2] at hB;generalize hr:qV T FF ng N n f (.sl ⟨a⟩ sz off len (some c)::rest) (eY ((a,.blk false (off+c*sz) cells)::others) .lf) ⟨m⟩=r at hB;cases r with
   | bad k=>cases hB
   | ret v t1 nx1=>
     obtain ⟨c1,c2⟩:=aB hB;obtain ⟨c3,c4⟩:=aB c2;obtain ⟨c5,c6⟩:=aB c4;obtain ⟨id,sz',off',len',cap',rfl,c7⟩:=uN c1 (by decide);obtain ⟨d1,d2⟩:=aB c7;obtain ⟨d3,d4⟩:=aB d1;obtain ⟨d5,d6⟩:=aB d2;have f1:id=bOf a:=B.eG (beq_iff.1 d3);have f2:=beq_iff.1 d4;have f3:=beq_iff.1 d5;have f4:len'=len+1:=beq_iff.1 d6;have f5:nx1=⟨m⟩:=B.eG (beq_iff.1 c3);subst f1 f2 f3 f4 f5;obtain ⟨ro,s1,hi1,cs1,g1,g2⟩:=fK c5 (by decide);obtain ⟨g3,g4⟩:=aB g2;obtain rfl:ro=false:=by simpa using g3
     refine ((calls hr).2 g _ w _ k1 k2 (.cons hxc hrest)).mono ?_;rintro e w' ⟨g',hp',val,rfl,st,hval⟩
     obtain ⟨g'',hp'',st2,hval2⟩:=Qm st.hr st.sub g1 (cs0:=fB news .lf 0) (fun j v hj=>by
      rw [bY] at hj;split at hj
      ·rename_i hjl;rw [Nat.sub_zero] at hj;exact ⟨by omega,Fa _ _ g4 j v hj⟩
      ·rw [B.dO] at hj;cases hj) hval
     obtain ⟨hp3,st3⟩:=((k3 st).trans st2).less (t'':=tE) (fun i o ho=>by
      rcases tE_get i o ho with ⟨rfl,rfl⟩ | ⟨j1,j2,x,hx,rfl,rfl⟩
      ·refine ⟨_,_,rfl,B.bU ⟨m⟩ _ _,.blk _ _ _ _ _ _ (Nat.le_refl _) fun j v hj=>?_⟩;rw [bY];have:=(List.getElem?_eq_some_iff.1 hj).1;rw [if_pos (by omega),Nat.sub_zero];exact hj
      ·obtain ⟨o',r1,r2⟩:=hin c6 x hx
       exact ⟨x.2,o',rfl,(B.iZ ⟨m⟩ _ _ _ j1).trans ((B.iZ _ _ _ _ j2).trans r1),r2⟩)
     exact ⟨g'',hp3,val,rfl,st3,hval2⟩
  ·
   have hce:c=len:=(by omega);subst hce;unfold gG at hA;rw [tK] at hA;obtain ⟨k1,k2,k3⟩:=Dj (T:=T) (w0:=w0) (ng:=ng) (cells:=cells) hmem h1 h2 (s':=off+c*sz) q6;have e2:Nat.add off (Nat.mul c sz)=off+c*sz:=rfl;rw [e2] at hA;generalize hr:qV T FF ng N n f (.sl ⟨a⟩ sz off c (some c)::rest) (eY ((a,.blk false (off+c*sz) cells)::others) .lf) ⟨m⟩=r at hA;cases r with
   | bad k=>cases hA
   | ret v t1 nx1=>
     obtain ⟨c1,c2⟩:=aB hA;obtain ⟨c3,c4⟩:=aB c2;obtain ⟨c5,c6⟩:=aB c4;obtain ⟨id,sz',off',len',cap',rfl,c7⟩:=uN c1 (by decide);obtain ⟨d1,d2⟩:=aB c7;obtain ⟨d3,d4⟩:=aB d1;obtain ⟨d5,d6⟩:=aB d2;have f1:id=bOf m:=B.eG (beq_iff.1 d3);have f2:=beq_iff.1 d4;have f3:=beq_iff.1 d5;have f4:len'=c+1:=beq_iff.1 d6;have f5:nx1=⟨m+1⟩:=B.eG (beq_iff.1 c3);subst f1 f2 f3 f4 f5;refine ((calls hr).2 g _ w _ k1 k2 (.cons hxc hrest)).mono ?_;rintro e w' ⟨g',hp',val,rfl,st,hval⟩;obtain ⟨onew,r1,r2⟩:=zL c5
     obtain ⟨hp3,st3⟩:=(k3 st).less (t'':=tE) (fun i o ho=>by
      rcases tE_get i o ho with ⟨rfl,rfl⟩ | ⟨j1,j2,x,hx,rfl,rfl⟩
      ·exact ⟨_,onew,rfl,r1,r2⟩
      ·obtain ⟨o',r1,r2⟩:=hin c6 x hx
       exact ⟨x.2,o',rfl,r1,r2⟩)
     refine ⟨g',hp3,val,rfl,st3,?_⟩;cases hval with
     | sl _ _ _ _ _ a' c' i1 i2 i3 i4 i5 i6 i7=>exact .sl _ _ _ _ none a' c' i1 i2 i3 (fun k hk=>by cases hk) i5 i6 i7
 ·have:x=(m,.blk false (Nat.mul (Nat.succ len) sz) news):=by simpa [fU] using hx
  subst this;refine ⟨_,B.bU _ _ _,.blk _ _ _ _ _ _ (Nat.le_refl _) fun j v hj=>?_⟩;rw [bY];have:=(List.getElem?_eq_some_iff.1 hj).1;rw [if_pos (by omega),Nat.sub_zero];exact hj
 ·rcases List.mem_cons.1 hx with rfl | hx
  ·have:jX a (others.map (·.1))=true:=fF.2 hxs;rw [hmem] at this;cases this
  ·obtain ⟨o1,r1,r2⟩:=zL (List.all_eq_true.1 n12 x hx);have j1:bOf x.1≠bOf m:=fun e=>by have:=hlow x hx;have:=lF e;omega
   have j2:bOf x.1≠bOf a:=fun e=>hne x hx (lF e)
   refine ⟨o1,?_,r2⟩;show (bOf x.1).get ((bOf m).put ((bOf a).put (eY ((a,.blk false s0 cells)::others) .lf) none) _)=some o1;rw [B.iZ _ _ _ _ j1,B.iZ _ _ _ _ j2,a2 _ j2];exact r1
end
noncomputable def J7 (i:B) (t:Tr Obj) (K:FR):FR:=iP (i.get t) (fun ro sz _ _=>aJ (and (not ro) (Nat.blt 0 sz)) K (.bad 421)) (.bad 421)
noncomputable def LX:Pre:=fun args t nx _=>a2 args (fun a b=>mZ a (fun i _ _ l _=>mZ b (fun j _ _ l' _=>aJ (and (not (Nat.beq i.n j.n)) (and (Nat.blt 0 l) (Nat.blt 0 l'))) (J7 i t (J7 j t (.ret (.bool false) t nx))) (.bad 422)) (.bad 423)) (.bad 423)) (.bad 423)
theorem Ce {i:B} {t:Tr Obj} {K:FR} {r:FR} (h:J7 i t K=r) (hr:∀ n,FR.bad n≠r):K=r∧∃ sz hi cs,i.get t=some (.blk false sz hi cs)∧0<sz:=by
 obtain ⟨ro,sz,hi,cs,h1,h2⟩:=fK h (hr _);obtain ⟨h3,h4⟩:=aG h2 (hr _);obtain ⟨h5,h6⟩:=aB h3;obtain rfl:ro=false:=by simpa using h5
 exact ⟨h4,sz,hi,cs,h1,aN.1 h6⟩
section
variable {P:Program} {T:Nat→TE} {w0:World} {ng:Nat}
theorem yY {f:Nat} {fn:Func} {tS tR e size:Nat} (hf:P.funcs[f]?=some fn) (hname:(fn.name == "runtime.NumGoroutine")=false) (hb:fn.body.isNone=true) (hn:Extern.findNext fn=none) (he:Extern.find fn=some (Extern.SlicesOverlaps.overlaps #[tS,tS] #[tR]))
  (ht:P.underlying tS=some (.slice e)) (hz:∀ w,(Go.sizeOf e).run P w = .ok size w):Ea P T w0 ng f LX:=by
 intro args t nx ex v t' nx' h;have hbad:∀ n,FR.bad n ≠ .ret v t' nx':=fun n h=>by cases h
 obtain ⟨a,b,rfl,h1⟩:=adU (show a2 args _ _=_ from h) (hbad _);obtain ⟨i,sz,off,l,cap,rfl,h2⟩:=uN h1 (hbad _);obtain ⟨j,sz',off',l',cap',rfl,h3⟩:=uN h2 (hbad _);obtain ⟨h4,h5⟩:=aG h3 (hbad _);obtain ⟨hij,hl⟩:=aB h4;obtain ⟨hl1,hl2⟩:=aB hl;have hl1:=aN.1 hl1;have hl2:=aN.1 hl2;obtain ⟨h6,s1,hi1,cs1,hg1,hp1⟩:=Ce h5 hbad;obtain ⟨h7,s2,hi2,cs2,hg2,hp2⟩:=Ce h6 hbad;have hne:i≠j:=fun e=>by
  subst e;have:Nat.beq i.n i.n=true:=beq_iff.2 rfl;rw [this] at hij;cases hij
 cases h7;refine .inl (.inr ⟨rfl,rfl,⟨fn,hf,hb⟩,fun g hp w vs g1 g2 g3=>?_⟩);obtain ⟨x,vs1,rfl,hx,g3⟩:=g3.inv;obtain ⟨y,vs2,rfl,hy,g3⟩:=g3.inv;have:=g3.jH;subst this;obtain ⟨ax,c,rfl,q1,q2,q3,q4,q5,q6,q7⟩:=hx.sG;obtain ⟨ay,c',rfl,p1,p2,p3,p4,p5,p6,p7⟩:=hy.sG;have ex:=q7 (by omega);have ey:=p7 (by omega);subst ex ey;obtain ⟨cur1,T1,fz1,a1,a2,a3,a4,_⟩:=g1.blk g2 hg1;obtain ⟨cur2,T2,fz2,b1,b2,b3,b4,_⟩:=g1.blk g2 hg2;have hf1:=a2 rfl;subst hf1;refine ⟨.bool false,?_,.bool _⟩;rw [run_callFunc_extern hf hname hb hn he];have hcall:=Lib.run_overlaps_apart (P:=P) w tS tR e ht size hz ⟨(g i).b,(g i).o+off,none⟩ ⟨(g j).b,(g j).o+off',none⟩ l c l' c' (g1.sep i j _ _ (g2 i _ hg1) (g2 j _ hg2) hne rfl) T1 T2 cur1.size cur2.size
  (by simp [World.shape?,a1]) (by simp [World.shape?,b1]) (by omega) (by simp [World.frozen?,a1]) (by simp [World.frozen?,a1])
 show ((Extern.SlicesOverlaps.overlaps #[tS,tS] #[tR] #[_,_]).run P w).andThen _=_;rw [hcall];rfl
end
end Go.Sim
