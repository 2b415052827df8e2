/- Sim: parts, addresses, indexes, slices. -/
import Derived.Test.YtpmapognbdiahaaGreatDoorSimBAnd
set_option linter.all false
namespace Go.Sim
open Go Go.RowKit
open Go.Abs (TE TK SK TOK TFacts)
section
variable {P:Program} {T:Nat→TE} {w0:World} {ng:Nat}
theorem Aa {k:TK} {f:Nat} {K:Nat→Nat→Bool→R} {e r:R} (h:X9 (ql k f) K e=r) (he:e≠r):∃ fs fo fsz fb,k = .agg fs∧fs[f]?=some (fo,fsz,fb)∧K fo fsz fb=r:=by
 cases k<;>try exact absurd h he
 rename_i fs;simp only [ql] at h;cases hf:fs[f]? with
 | none=>rw [hf] at h;exact absurd h he
 | some x=>rw [hf] at h;exact ⟨fs,x.1,x.2.1,x.2.2,rfl,hf,h⟩
theorem qR (hT:TOK P T) {o:Oper} {t f:Nat} {x:Operand} (ho:o.op = .fieldAddr t x f):HQ P T w0 ng o (zV t f):=by
 intro call _ vals hh nx K r hr h;obtain ⟨fs,fo,fsz,fb,hk,hf,k1⟩:=Aa h (hr _);obtain ⟨hz,k2⟩:=aG k1 (hr _);obtain ⟨v,rfl,k3⟩:=ku k2 (hr _);obtain ⟨id,off,rfl,k4⟩:=jq k3 (hr _);rw [aI] at k4;refine ⟨_,k4,fun g hp ρ w g1 g2 g3=>?_⟩;have hx:=qF (x:=x) (by simp [ho,Op.operands]) g3;generalize hvx:ρ x=vx at hx;cases hx;rename_i hid;have:=Abs.GZ (w:=w) hT hk hf (by have:=aN.1 hz;omega) (g id).b ((g id).o+off);refine ⟨_,by simp only [execOp,ho,hvx];rw [Sem.run_bind,this];rfl,?_⟩;rw [Nat.add_assoc];exact .ptr id _ hid
theorem Dv (hT:TOK P T) {o:Oper} {t f:Nat} {x:Operand} (ho:o.op = .field t x f):HQ P T w0 ng o (Uz t f):=by
 intro call _ vals hh nx K r hr h;obtain ⟨fs,fo,fsz,fb,hk,hf,k1⟩:=Aa h (hr _);obtain ⟨v,rfl,k2⟩:=ku k1 (hr _);obtain ⟨cs,rfl,k3⟩:=ni k2 (hr _);obtain ⟨hle,k4⟩:=aG k3 (hr _);obtain ⟨c,hc,k5⟩:=eF k4 (hr _);rw [Dx] at k5;have hle':fo+fsz≤cs.length:=aY.1 hle;refine ⟨_,k5,fun g hp ρ w g1 g2 g3=>?_⟩;have hx:=qF (x:=x) (by simp [ho,Op.operands]) g3;generalize hvx:ρ x=vx at hx;cases hx with
 | agg _ us e1 e2 e3=>
   obtain ⟨d,i,hfac,hd⟩:=yD hT hk (by simp);cases d
   case struct fields=>
    simp only [Abs.kOf] at hd;split at hd
    ·cases hd;simp only [List.getElem?_map,Option.map_eq_some_iff] at hf;obtain ⟨fd,hfd,hfe⟩:=hf;simp only [Prod.mk.injEq] at hfe;obtain ⟨rfl,rfl,rfl⟩:=hfe;have hfd':fields[f]?=some fd:=(by simpa using hfd);rename_i hall;have h1:=(Bool.and_eq_true _ _).mp (List.all_eq_true.1 hall fd (List.mem_of_getElem? hfd));obtain ⟨ii,hii⟩:=Option.isSome_iff_exists.1 h1.1;obtain ⟨dd,hdd⟩:=Option.isSome_iff_exists.1 h1.2;have hagg:=Abs.vU (P:=P) hdd w;have hsz:P.cellsOf fd.type=ii.size:=(by simp [Program.cellsOf,hii]);have hrun:(Instr.field t (.agg us) f).run P w=((Go.part fd.type us fd.offset).run P w):=by
      simp [Instr.field,run_underlying hfac.und,hfd',Go.asAgg]
     have ex:(execOp ρ o).run P w=((Go.part fd.type us fd.offset).run P w).andThen fun v w => .ok (.value v) w:=by
      simp only [execOp,ho,hvx];rw [Sem.run_bind,hrun];rfl
     rw [ex];cases hb:Abs.kP P fd.type with
     | true=>
       rw [hb] at hc hagg;simp only [part,Option.some.injEq] at hc;subst hc;refine ⟨.agg (us.extract fd.offset (fd.offset+P.cellsOf fd.type)),?_,.agg _ _ ?_ (fun i c u hc hu=>?_) (fun i u hu=>?_)⟩
       ·simp [Go.part,hagg,run_sizeOf w hii,hsz]
       ·simp;omega
       ·obtain ⟨hi,he⟩:=Array.getElem?_eq_some_iff.1 hu;rw [Array.getElem_extract] at he;simp at hi;rw [List.getElem?_take_of_lt (by omega),List.getElem?_drop] at hc;exact e2 (fd.offset+i) c u hc (Array.getElem?_eq_some_iff.2 ⟨by omega,he⟩)
       ·obtain ⟨hi,he⟩:=Array.getElem?_eq_some_iff.1 hu;rw [Array.getElem_extract] at he;simp at hi;exact e3 (fd.offset+i) u (Array.getElem?_eq_some_iff.2 ⟨by omega,he⟩)
     | false=>
       rw [hb] at hc hagg;simp only [part] at hc;have hi:fd.offset<us.size:=(by rw [e1];exact (List.getElem?_eq_some_iff.1 hc).1);exact ⟨us[fd.offset],by simp [Go.part,hagg,hi],e2 _ _ _ hc (by simp [hi])⟩
    ·cases hd
   case array n' e'=>simp only [Abs.kOf] at hd;split at hd<;>cases hd
   all_goals exact absurd hd (by simp [Abs.kOf])
theorem qQ (hT:TOK P T) {o:Oper} {t:Nat} {x ix:Operand} (ho:o.op = .indexAddr t x ix):HQ P T w0 ng o (zU t):=by
 intro call _ vals hh nx K r hr h;obtain ⟨v,vi,rfl,k1⟩:=lq h (hr _);cases hk:(T t).k<;>rw [hk] at k1<;>simp only [Ky] at k1<;>try exact absurd k1 (hr _)
 case slc e=>
  obtain ⟨id,sz,off,len,cap,rfl,k2⟩:=uN k1 (hr _);obtain ⟨k,i,rfl,k3⟩:=dH k2 (hr _);obtain ⟨hb,k4⟩:=aG k3 (hr _);obtain ⟨hkn,hsz⟩:=aB hb;obtain ⟨m,rfl,hm,k5⟩:=iY k4 (hr _);rw [aI] at k5;have hsz':=beq_iff.1 hsz;refine ⟨_,k5,fun g hp ρ w g1 g2 g3=>?_⟩;obtain ⟨hx,hi⟩:=oK (x:=x) (y:=ix) (by simp [ho,Op.operands]) g3;generalize hvx:ρ x=vx at hx;generalize hvi:ρ ix=vi at hi;cases hi;cases hx with
  | sl _ _ _ _ _ a c i1 i2 i3 i4 i5 i6 i7=>
    have ha:=i7 (by omega);subst ha;obtain ⟨de,ie,hfe⟩:=hT.facts (Abs.TE.bg hkn);have hu:=rX hT hk;refine ⟨.pointer (some ⟨(g id).b,(g id).o+off+m*(T e).size,none⟩),?_,?_⟩
    ·simp only [execOp,ho,hvx,hvi];rw [Sem.run_bind];have:(Instr.indexAt t (.slice (some ⟨(g id).b,(g id).o+off,none⟩) len c) (.int k m)).run P w = .ok (.pointer (some ⟨(g id).b,(g id).o+off+m*(T e).size,none⟩)) w:=by
      simp [Instr.indexAt,asIntOf,run_underlying hu,hfe.sizeOf,hm,Addr.add_lit]
     rw [this];rfl
    ·rw [hsz',Nat.add_assoc];exact .ptr id _ i1
 case arr n e=>
  obtain ⟨id,off,rfl,k2⟩:=jq k1 (hr _);obtain ⟨k,i,rfl,k3⟩:=dH k2 (hr _);obtain ⟨hkn,k4⟩:=aG k3 (hr _);obtain ⟨m,rfl,hm,k5⟩:=iY k4 (hr _);rw [aI] at k5;refine ⟨_,k5,fun g hp ρ w g1 g2 g3=>?_⟩;obtain ⟨hx,hi⟩:=oK (x:=x) (y:=ix) (by simp [ho,Op.operands]) g3;generalize hvx:ρ x=vx at hx;generalize hvi:ρ ix=vi at hi;cases hi;cases hx;rename_i hid;obtain ⟨de,ie,hfe⟩:=hT.facts (Abs.TE.bg hkn);have hu:=xP hT hk;refine ⟨.pointer (some ⟨(g id).b,(g id).o+off+m*(T e).size,none⟩),?_,?_⟩
  ·simp only [execOp,ho,hvx,hvi];rw [Sem.run_bind];have:(Instr.indexAt t (.pointer (some ⟨(g id).b,(g id).o+off,none⟩)) (.int k m)).run P w = .ok (.pointer (some ⟨(g id).b,(g id).o+off+m*(T e).size,none⟩)) w:=by
    simp [Instr.indexAt,asIntOf,run_underlying hu,Instr.sureAddr,hfe.sizeOf,hm,Addr.add_lit]
   rw [this];rfl
  ·rw [Nat.add_assoc];exact .ptr id _ hid
theorem Du (hT:TOK P T) {o:Oper} {t:Nat} {x ix:Operand} (ho:o.op = .index t x ix):HQ P T w0 ng o (Uy t):=by
 intro call _ vals hh nx K r hr h;obtain ⟨v,vi,rfl,k1⟩:=lq h (hr _);cases hk:(T t).k<;>rw [hk] at k1<;>simp only [Uk] at k1<;>try exact absurd k1 (hr _)
 case str=>
  obtain ⟨l,n,rfl,k2⟩:=fJ k1 (hr _);obtain ⟨k,i,rfl,k3⟩:=dH k2 (hr _);obtain ⟨m,rfl,hm,k4⟩:=iY k3 (hr _);rw [aI] at k4;refine ⟨_,k4,fun g hp ρ w g1 g2 g3=>?_⟩;obtain ⟨hx,hi⟩:=oK (x:=x) (y:=ix) (by simp [ho,Op.operands]) g3;generalize hvx:ρ x=vx at hx;generalize hvi:ρ ix=vi at hi;cases hi;cases hx;rename_i s hs;have hc:s[m]?=some s[m]:=List.getElem?_eq_getElem hm;have hg:=Abs.X8 s m _ hc;have e:Nat.mod (Nat.shiftRight (aU s) (Nat.mul 8 (Nat.sub (Nat.sub s.length 1) m))) 256=s[m].toNat:=by
   rw [← GH s m _ hc];show Nat.shiftRight (aU s) (8*(s.length-1-m)) % 256=_;rw [show Nat.shiftRight (aU s) (8*(s.length-1-m))=aU s / 2 ^ (8*(s.length-1-m)) from Nat.shiftRight_eq_div_pow _ _]
  refine ⟨.int .u8 s[m].toNat,by simp [execOp,ho,hvx,hvi,Instr.index,asIntOf,run_underlying (pV hT hk),hg],?_⟩;rw [e];exact .int _ _
 case arr n e=>
  obtain ⟨cs,rfl,k2⟩:=ni k1 (hr _);obtain ⟨k,i,rfl,k3⟩:=dH k2 (hr _);obtain ⟨m,rfl,hm,k4⟩:=iY k3 (hr _);rw [aI] at k4;obtain ⟨hb,k5⟩:=aG k4 (hr _);obtain ⟨hkn,hle⟩:=aB hb;obtain ⟨c,hc,k6⟩:=eF k5 (hr _);rw [Dx] at k6;have hle':m*(T e).size+(T e).size≤cs.length:=aY.1 hle;refine ⟨_,k6,fun g hp ρ w g1 g2 g3=>?_⟩;obtain ⟨hx,hi⟩:=oK (x:=x) (y:=ix) (by simp [ho,Op.operands]) g3;generalize hvx:ρ x=vx at hx;generalize hvi:ρ ix=vi at hi;cases hi;cases hx with
  | agg _ us e1 e2 e3=>
    obtain ⟨de,ie,hfe⟩:=hT.facts (Abs.TE.bg hkn);have hu:=xP hT hk;have hagg:=congrFun (hfe.Af (Abs.TE.bg hkn)) w;have hsz:=hfe.sizeOf w;have hrun:(Instr.index t (.agg us) (.int k m)).run P w=(Go.part e us (m*(T e).size)).run P w:=by
     simp [Instr.index,asIntOf,run_underlying hu,hsz,hm]
    have ex:(execOp ρ o).run P w=((Go.part e us (m*(T e).size)).run P w).andThen fun v w => .ok (.value v) w:=by
     simp only [execOp,ho,hvx,hvi];rw [Sem.run_bind,hrun];rfl
    rw [ex];cases hb2:(T e).k.isAgg with
    | true=>
      rw [hb2] at hc hagg;simp only [part,Option.some.injEq] at hc;subst hc;refine ⟨.agg (us.extract (m*(T e).size) (m*(T e).size+(T e).size)),?_,.agg _ _ ?_ (fun i c u hc hu=>?_) (fun i u hu=>?_)⟩
      ·simp [Go.part,hagg,hsz]
      ·have hle2:Nat.mul m (T e).size+(T e).size≤cs.length:=hle';simp;omega
      ·obtain ⟨hi,he⟩:=Array.getElem?_eq_some_iff.1 hu;rw [Array.getElem_extract] at he;simp at hi;rw [List.getElem?_take_of_lt (by omega),List.getElem?_drop] at hc;exact e2 (m*(T e).size+i) c u hc (Array.getElem?_eq_some_iff.2 ⟨by omega,he⟩)
      ·obtain ⟨hi,he⟩:=Array.getElem?_eq_some_iff.1 hu;rw [Array.getElem_extract] at he;simp at hi;exact e3 (m*(T e).size+i) u (Array.getElem?_eq_some_iff.2 ⟨by omega,he⟩)
    | false=>
      rw [hb2] at hc hagg;simp only [part] at hc;have hi:m*(T e).size<us.size:=(by rw [e1];exact (List.getElem?_eq_some_iff.1 hc).1);exact ⟨us[m*(T e).size],by simp [Go.part,hagg,hi],e2 _ _ _ hc (by simp [hi])⟩
theorem Dp {o:Oper} {gl:Nat} (ho:o.op = .waits gl):HQ P T w0 ng o (Uu gl ng):=by
 intro call _ vals hh nx K r hr h;obtain ⟨hlt,k1⟩:=aG h (hr _);obtain ⟨ro,sz,hi,cs,hg,k2⟩:=fK k1 (hr _);refine ⟨_,k2,fun g hp ρ w g1 g2 g3=>?_⟩;obtain ⟨cur,Tb,fz,e1,_⟩:=g1.blk g2 hg;rw [(g1.glob gl (aN.1 hlt)).1] at e1;have hs:(shape gl).run P w = .ok (w.shape? gl) w:=rfl;have hs':w.shape? gl=some (Tb,cur.size):=by simp [World.shape?,e1]
 exact ⟨.bool false,by simp [execOp,ho,Instr.waits,hs,hs'],.bool _⟩
theorem agx {there:Bool} {vs:List V} {K:Option Nat→List V→R} {e r:R} (h:bnd there vs K e=r) (he:e≠r) :
  (there=false∧K none vs=r)∨∃ k n vs',there=true∧vs = .int k (n:Nat)::vs'∧K (some n) vs'=r:=by
 cases there with
 | false=>exact .inl ⟨rfl,h⟩
 | true=>
   obtain ⟨v,vs',rfl,k1⟩:=ND h he;obtain ⟨k,i,rfl,k2⟩:=dH k1 he;obtain ⟨n,rfl,_,k3⟩:=iY k2 he;exact .inr ⟨k,n,vs',rfl,rfl,k3⟩
theorem GY {t e:Nat} (hu:P.underlying t=some (.slice e)) {sz:Nat} {w:World} (hs:(sizeOf e).run P w = .ok sz w) (a:Option Addr) (len cap:Nat) (lo hi m:Option Nat) (kl kh km:IntKind)
  (h1:orD lo 0≤orD hi len) (h2:orD hi len≤orD m cap) (h3:orD m cap≤cap) (h4:m.isSome=true→hi.isSome=true) :
  (Instr.sliceAt t (.slice a len cap) (lo.map fun (n:Nat)=>Value.int kl n) (hi.map fun (n:Nat)=>Value.int kh n) (m.map fun (n:Nat)=>Value.int km n)).run P w =
   .ok (.slice (if orD m cap=orD lo 0 then a else a.map (·.add (orD lo 0*sz))) (orD hi len-orD lo 0) (orD m cap-orD lo 0)) w:=by
 cases lo<;>cases hi<;>cases m<;>simp [orD] at h1 h2 h3 h4 ⊢ <;>
  simp [Instr.sliceAt,Instr.slice,run_underlying hu,Instr.sliceBounds,Instr.sliceBound,asIntOf,hs,h1,h2,h3]<;>congr
theorem RI {t:Nat} (hu:P.underlying t=some .string) {w:World} (s:ByteArray) (lo hi:Option Nat) (kl kh:IntKind)
  (h1:orD lo 0≤orD hi s.size) (h2:orD hi s.size≤s.size) :
  (Instr.sliceAt t (.string s) (lo.map fun (n:Nat)=>Value.int kl n) (hi.map fun (n:Nat)=>Value.int kh n) none).run P w = .ok (.string (s.extract (orD lo 0) (orD hi s.size))) w:=by
 cases lo<;>cases hi<;>simp [orD] at h1 h2 ⊢ <;>
  simp [Instr.sliceAt,Instr.slice,run_underlying hu,Instr.sliceBounds,Instr.sliceBound,asIntOf,h1,h2]
theorem RJ {t n e:Nat} (hu:P.underlying t=some (.array n e)) {sz:Nat} {w:World} (hs:(sizeOf e).run P w = .ok sz w) (a:Addr) (lo hi:Option Nat) (kl kh:IntKind)
  (h1:orD lo 0≤orD hi n) (h2:orD hi n≤n) :
  (Instr.sliceAt t (.pointer (some a)) (lo.map fun (n:Nat)=>Value.int kl n) (hi.map fun (n:Nat)=>Value.int kh n) none).run P w =
   .ok (.slice (some (if n=orD lo 0 then a else a.add (orD lo 0*sz))) (orD hi n-orD lo 0) (n-orD lo 0)) w:=by
 cases lo<;>cases hi<;>simp [orD] at h1 h2 ⊢ <;>
  simp [Instr.sliceAt,Instr.sureAddr,run_underlying hu,Instr.sliceBounds,Instr.sliceBound,asIntOf,hs,h1,h2]<;>congr
theorem ZG (m cap:Option Nat) (l mm:Nat) (K:Option Nat→R):aiO m cap l mm K=K (match m,cap with | none,none=>none | none,some c=>some (c-l) | some _,_=>some (mm-l)):=by
 cases m<;>cases cap<;>first | rfl | exact aI _ _
theorem PV (hT:TOK P T) {t:Nat} {x:V} {lo hi m:Option Nat} {K:V→R} {r:R} (hr:∀ n,R.bad n≠r) (h:Jw (T t).k T x lo hi m K=r) :
  ∃ v,K v=r∧∀ (g:Gh) (n:Nat) (w:World) (u:Value) (kl kh km:IntKind),RV g n x u →
    (∀ e c,(T t).k = .arr e c→∀ id sz off len cc,v = .sl id sz off len (some cc)→off+cc*sz≤(g id).n) →
    ∃ u',(Instr.sliceAt t u (lo.map fun (n:Nat)=>Value.int kl n) (hi.map fun (n:Nat)=>Value.int kh n) (m.map fun (n:Nat)=>Value.int km n)).run P w = .ok u' w∧RV g n v u':=by
 cases hk:(T t).k<;>rw [hk] at h<;>simp only [Jw] at h<;>try exact absurd h (hr _)
 case str=>
  obtain ⟨len,n,rfl,k1⟩:=fJ h (hr _);obtain ⟨hb,k2⟩:=aG k1 (hr _);obtain ⟨b1,b2⟩:=aB hb;obtain ⟨b3,b4⟩:=aB b2;have b1':=aY.1 b1;have b3':=aY.1 b3;rw [aI,aI] at k2;have hm:m=none:=by cases m<;>first | rfl | exact absurd b4 (by simp)
  subst hm;refine ⟨_,k2,fun g n' w u kl kh km hu hroom=>?_⟩;clear hroom;cases hu;rename_i s hs;have hsz:(⟨s.toArray⟩:ByteArray).size=s.length:=by simp [ByteArray.size]
  refine ⟨_,RI (pV hT hk) _ lo hi kl kh (by rw [hsz];exact b1') (by rw [hsz];exact b3'),?_⟩;rw [hsz,Abs.YA];have e1:Nat.sub (orD hi s.length) (orD lo 0)=((s.take (orD hi s.length)).drop (orD lo 0)).length:=by
   show orD hi s.length-orD lo 0=_;simp;omega
  have e2:Nat.mod (Nat.shiftRight (aU s) (Nat.mul 8 (Nat.sub s.length (orD hi s.length)))) (Nat.pow 2 (Nat.mul 8 (Nat.sub (orD hi s.length) (orD lo 0))))=aU ((s.take (orD hi s.length)).drop (orD lo 0)):=by
   rw [PK,Bq,List.length_take,Nat.min_eq_left b3'];show Nat.shiftRight (aU s) (8*(s.length-orD hi s.length)) % 2 ^ (8*(orD hi s.length-orD lo 0))=_;rw [show Nat.shiftRight (aU s) (8*(s.length-orD hi s.length))=aU s / 2 ^ (8*(s.length-orD hi s.length)) from Nat.shiftRight_eq_div_pow _ _]
  rw [e2,e1];exact .str _ (by simp;omega)
 case slc e=>
  obtain ⟨hkn,k0⟩:=aG h (hr _);obtain ⟨de,ie,hfe⟩:=hT.facts (Abs.TE.bg hkn);have hu:=rX hT hk;rcases ji k0 with ⟨id,sz,off,len,cap,rfl,k1⟩ | ⟨_,k1⟩
  ·obtain ⟨hb,k2⟩:=aG k1 (hr _);obtain ⟨b0,b1⟩:=aB hb;obtain ⟨b2,b3⟩:=aB b1;obtain ⟨b4,b5⟩:=aB b3;obtain ⟨b6,b7⟩:=aB b5;have b0':=beq_iff.1 b0;have b2':=aY.1 b2;have b4':=aY.1 b4;rw [aI,aI,ZG] at k2;refine ⟨_,k2,fun g n w u kl kh km hx _=>?_⟩;cases hx with
   | sl _ _ _ _ _ a c i1 i2 i3 i4 i5 i6 i7=>
     have hcap:orD cap len≤c:=by
      cases cap with
      | none=>exact i2
      | some k=>rw [i4 k rfl];exact Nat.le_refl _
     have hmm:orD m (orD cap len)≤orD m c∧orD m c≤c∧orD hi len≤orD m c:=by
      cases m with
      | none=>exact ⟨hcap,Nat.le_refl _,Nat.le_trans b4' hcap⟩
      | some m=>exact ⟨Nat.le_refl _,Nat.le_trans (aY.1 b6) hcap,b4'⟩
     have h4:m.isSome=true→hi.isSome=true:=by
      intro hm;cases m with
      | none=>cases hm
      | some m=>cases hi with
        | none=>exact absurd b7 (by simp)
        | some hi=>rfl
     refine ⟨_,GY hu (hfe.sizeOf w) a len c lo hi m kl kh km b2' hmm.2.2 hmm.2.1 h4,?_⟩;have hlo:orD lo 0≤orD m c:=(by omega);have hmul:off+Nat.mul (orD lo 0) sz+(orD m c-orD lo 0)*sz≤(g id).n:=by
      have e:orD lo 0*sz+(orD m c-orD lo 0)*sz=orD m c*sz:=(by rw [← Nat.add_mul];congr 1;omega);have:orD m c*sz≤c*sz:=Nat.mul_le_mul_right _ hmm.2.1;show off+orD lo 0*sz+(orD m c-orD lo 0)*sz≤_;omega
     have hA:orD hi len-orD lo 0≤orD m c-orD lo 0:=Nat.sub_le_sub_right hmm.2.2 _;have hB:orD m c-orD lo 0≤maxL:=Nat.le_trans (Nat.sub_le _ _) (Nat.le_trans hmm.2.1 i3);refine .sl id sz _ _ _ _ _ i1 hA hB (fun k hk'=>?_) i5 hmul (fun hpos=>?_)
     ·cases m with
      | none=>cases cap with
        | none=>cases hk'
        | some c'=>
          have:=i4 c' rfl;simp only [Option.some.injEq] at hk';subst hk';subst this;rfl
      | some m'=>
        simp only [Option.some.injEq] at hk';subst hk';rfl
     ·have hcc:orD lo 0<orD m c:=Nat.lt_of_sub_pos hpos;have ha:=i7 (Nat.lt_of_lt_of_le (Nat.lt_of_le_of_lt (Nat.zero_le _) hcc) hmm.2.1);subst ha;rw [if_neg (Nat.ne_of_gt hcc)];simp only [Option.map_some,Addr.add_lit];rw [← b0'];show some (⟨_,(g id).o+off+orD lo 0*sz,none⟩:Addr)=some ⟨_,(g id).o+(off+orD lo 0*sz),none⟩;rw [Nat.add_assoc]
  ·obtain ⟨hb,k2⟩:=aG k1 (hr _);obtain ⟨b1,b2⟩:=aB hb;obtain ⟨b3,b4⟩:=aB b2;obtain ⟨hv,k3⟩:=iI k2 (hr _);have hm:orD m 0=0∧(m.isSome=true→hi.isSome=true):=by
    cases m with
    | none=>exact ⟨rfl,fun h=>by cases h⟩
    | some k=>
      cases hi with
      | none=>exact absurd b4 (by simp)
      | some h'=>exact ⟨beq_iff.1 (show Nat.beq k 0=true from b4),fun _=>rfl⟩
   have e1:=beq_iff.1 b1;have e3:=beq_iff.1 b3;refine ⟨_,k3,fun g n w u kl kh km hx _=>?_⟩;have run:∀ (a:Option Addr),(Instr.sliceAt t (.slice a 0 0) (lo.map fun (n:Nat)=>Value.int kl n) (hi.map fun (n:Nat)=>Value.int kh n) (m.map fun (n:Nat)=>Value.int km n)).run P w = .ok (.slice a 0 0) w:=by
    intro a;have:=GY hu (hfe.sizeOf w) a 0 0 lo hi m kl kh km (by rw [e1];exact Nat.zero_le _) (by rw [e3];exact Nat.zero_le _) (by rw [hm.1];exact Nat.le_refl _) hm.2;rw [e1,e3,hm.1] at this
    simpa using this
   rcases hv with rfl | rfl
   ·cases hx;exact ⟨_,run none,.aj⟩
   ·cases hx;exact ⟨_,run _,.gq _⟩
 case arr n e=>
  obtain ⟨hb0,k0⟩:=aG h (hr _);obtain ⟨hb1,hb2⟩:=aB hb0;obtain ⟨hkn,hnl⟩:=aB hb1;obtain ⟨id,off,rfl,k1⟩:=jq k0 (hr _);obtain ⟨hb,k2⟩:=aG k1 (hr _);obtain ⟨b1,b2⟩:=aB hb;obtain ⟨b3,b4⟩:=aB b2;have b1':=aY.1 b1;have b3':=aY.1 b3;have hnl':=aY.1 hnl;rw [aI,aI,aI] at k2;have hm:m=none:=by cases m<;>first | rfl | exact absurd b4 (by simp)
  subst hm;obtain ⟨de,ie,hfe⟩:=hT.facts (Abs.TE.bg hkn);refine ⟨_,k2,fun g n' w u kl kh km hx hroom=>?_⟩;cases hx;rename_i hid;refine ⟨_,RJ (xP hT hk) (hfe.sizeOf w) _ lo hi kl kh b1' b3',?_⟩;refine .sl id _ _ _ _ _ _ hid (Nat.sub_le_sub_right b3' _) (Nat.le_trans (Nat.sub_le _ _) hnl') (fun k hk'=>by simp at hk';subst hk';rfl) (aN.1 hb2) (hroom n e rfl _ _ _ _ _ rfl) (fun hpos=>?_);have hlt:orD lo 0<n:=by
   have:0<n-orD lo 0:=hpos;omega
  rw [if_neg (by omega),Addr.add_lit];show some (⟨_,(g id).o+off+orD lo 0*(T e).size,none⟩:Addr)=some ⟨_,(g id).o+(off+orD lo 0*(T e).size),none⟩;rw [Nat.add_assoc]
theorem Gn {x:Option Operand} {vs:List V} {K:Option Nat→List V→R} {e r:R} (h:bnd x.isSome vs K e=r) (he:e≠r) :
  ∃ l vs',K l vs'=r∧∀ (g:Gh) (n:Nat) (ρ:Operand→Value) (xs:List Operand),RVL g n vs ((x.toList++xs).map ρ)→(∃ k,x.map ρ=l.map fun (n:Nat)=>Value.int k n)∧RVL g n vs' (xs.map ρ):=by
 rcases agx h he with ⟨h1,h2⟩ | ⟨k,n,vs',h1,rfl,h2⟩
 ·refine ⟨none,vs,h2,fun g n ρ xs hl=>?_⟩;cases x with
  | none=>exact ⟨⟨.i64,rfl⟩,hl⟩
  | some x=>cases h1
 ·refine ⟨some n,vs',h2,fun g m ρ xs hl=>?_⟩;cases x with
  | none=>cases h1
  | some x=>
    obtain ⟨v,vs2,e1,e2,e3⟩:=hl.inv;simp only [Option.toList_some,List.cons_append,List.nil_append,List.map_cons,List.cons.injEq] at e1;obtain ⟨rfl,rfl⟩:=e1;refine ⟨⟨k,?_⟩,e3⟩;rw [Option.map_some,Option.map_some];generalize ρ x=u at e2;cases e2;rfl
theorem RS {v:V} {t:Tr Obj} {K r:R} (hr:∀ n,R.bad n≠r) (h:RU v t K=r) :
  K=r∧∀ id sz off len c,v = .sl id sz off len (some c)→∃ ro n hi cs,id.get t=some (.blk ro n hi cs)∧off+c*sz≤n:=by
 unfold RU at h;rcases ji h with ⟨id,sz,off,len,cap,rfl,k1⟩ | ⟨hne,k1⟩
 ·cases cap with
  | none=>exact ⟨k1,fun id sz off len c e=>by cases e⟩
  | some c=>
    obtain ⟨ro,n,hi,cs,hg,k2⟩:=fK (K:=fun _ n _ _=>aJ (Nat.ble (Nat.add off (Nat.mul c sz)) n) K (.bad 52)) k1 (hr _);obtain ⟨hb,k3⟩:=aG k2 (hr _);refine ⟨k3,fun id' sz' off' len' c' e=>?_⟩;cases e;exact ⟨ro,n,hi,cs,hg,aY.1 hb⟩
 ·exact ⟨k1,fun id sz off len c e=>absurd e (hne _ _ _ _ _)⟩
theorem Dq (hT:TOK P T) {o:Oper} {t:Nat} {x:Operand} {lo hi mx:Option Operand} (ho:o.op = .slice t x lo hi mx):HQ P T w0 ng o (Ux t lo.isSome hi.isSome mx.isSome):=by
 intro call _ vals hh nx K r hr h;obtain ⟨v,vs,rfl,k1⟩:=ND h (hr _);obtain ⟨l,vs1,k2,r1⟩:=Gn k1 (hr _);obtain ⟨h',vs2,k3,r2⟩:=Gn k2 (hr _);obtain ⟨m,vs3,k4,r3⟩:=Gn k3 (hr _);obtain ⟨v',k5,hrun⟩:=PV (P:=P) hT hr k4;obtain ⟨hkn,k6⟩:=aG k5 (hr _);have key:K v' hh nx=r∧((∃ e c,(T t).k = .arr e c)→∀ id sz off len c,v' = .sl id sz off len (some c)→∃ ro n hi cs,id.get hh=some (.blk ro n hi cs)∧off+c*sz≤n):=by
  rw [aQ] at k6;split at k6
  ·obtain ⟨e1,e2⟩:=RS hr k6;exact ⟨e1,fun _=>e2⟩
  ·rename_i hna;refine ⟨k6,fun ⟨e,c,he⟩=>?_⟩
   first | exact (hna _ _ he).elim | (rw [he] at hna;exact absurd rfl hna) | (rw [he] at hna;exact (hna _ _ rfl).elim)
 obtain ⟨hK,hroom⟩:=key;refine ⟨_,hK,fun g hp ρ w g1 g2 g3=>?_⟩;have hops:o.op.operands.toList=x::(lo.toList++(hi.toList++mx.toList)):=by cases lo<;>cases hi<;>cases mx<;>simp [ho,Op.operands]
 rw [hops,List.map_cons] at g3;obtain ⟨u,us,e1,hx,hvs⟩:=g3.inv;simp only [List.cons.injEq] at e1;obtain ⟨rfl,rfl⟩:=e1;have hvs':RVL g nx.num vs ((lo.toList++(hi.toList++(mx.toList++[]))).map ρ):=by simpa using hvs
 obtain ⟨⟨kl,q1⟩,h1⟩:=r1 g nx.num ρ _ hvs';obtain ⟨⟨kh,q2⟩,h2⟩:=r2 g nx.num ρ _ h1;obtain ⟨⟨km,q3⟩,h3⟩:=r3 g nx.num ρ _ h2
 obtain ⟨u',f1,f2⟩:=hrun g nx.num w _ kl kh km hx (fun e c he id sz off len cc hv=>by
  obtain ⟨ro,n,hi,cs,hg,hle⟩:=hroom ⟨e,c,he⟩ id sz off len cc hv;obtain ⟨_,_,_,_,_,_,hn,_⟩:=g1.blk g2 hg
  omega)
 refine ⟨u',?_,f2⟩;simp only [execOp,ho,q1,q2,q3];rw [Sem.run_bind,f1];rfl
end
end Go.Sim
namespace Go.Sim
open Go Go.RowKit
open Go.Abs (TE TK SK TOK TFacts patch size_patch patch_in patch_out)
def dL (g:Gh) (id:B) (p:Pl):Gh:=fun i=>if i=id then p else g i
def eX (hp:B→Option Obj) (id:B) (o:Option Obj):B→Option Obj:=fun i=>if i=id then o else hp i
theorem lC {g:Gh} {id:B} {p:Pl} {n:Nat} (h:n≤id.num):Ext g (dL g id p) n:=fun i hi=>by
 unfold dL;rw [if_neg (fun e=>by rw [e] at hi;omega)]
section
variable {P:Program} {T:Nat→TE} {w0:World} {ng:Nat}
theorem kJ.mono {g g':Gh} {n n':Nat} {w w':World} (he:Ext g g' n) (hn:n≤n') {id:B} (hid:id.num<n) (hw:w'.heap[(g id).b]?=w.heap[(g id).b]?) {o:Obj} (h:kJ T g n w id o):kJ T g' n' w' id o:=by
 have e:=he id hid;cases o with
 | blk ro sz hi cs=>
   obtain ⟨cur,Tb,fz,h1,h2,h3,h4,h5⟩:=h;refine ⟨cur,Tb,fz,by rw [e,hw];exact h1,h2,by rw [e];exact h3,by rw [e];exact h4,fun j v hv=>?_⟩;obtain ⟨q1,u,q2,q3,q4⟩:=h5 j v hv;exact ⟨q1,u,by rw [e];exact q2,q3.mono he hn,q4⟩
 | map kt es=>
   obtain ⟨ents,clock,h1,h2,h3,h4⟩:=h;exact ⟨ents,clock,by rw [e,hw];exact h1,h2,fun i m x hm hx=>⟨(h3 i m x hm hx).1.mono he hn,(h3 i m x hm hx).2.mono he hn⟩,h4⟩
theorem kJ.blk {g:Gh} {n:Nat} {w:World} {id:B} {o:Obj} (h:kJ T g n w id o):(g id).b<w.heap.size:=by
 cases o with
 | blk ro sz hi cs=>obtain ⟨_,_,_,h1,_⟩:=h;exact (Array.getElem?_eq_some_iff.1 h1).1
 | map kt es=>obtain ⟨_,_,h1,_⟩:=h;exact (Array.getElem?_eq_some_iff.1 h1).1
structure Like (ng:Nat) (w w':World):Prop where
 os:w'.os=w.os
 tape:w'.tape=w.tape
 output:w'.output=w.output
 size:w.heap.size≤w'.heap.size
 dr:ng=0→w.drawn≤w'.drawn
theorem HR.add {g:Gh} {hp:B→Option Obj} {nx:B} {w w':World} (h:HR T w0 ng g hp nx w) (hl:Like ng w w') {pl:Pl} (hold:∀ b,b<w.heap.size→b≠pl.b→w'.heap[b]?=w.heap[b]?)
  (hpl:w0.heap.size≤pl.b) (hfree:∀ id o,hp id=some o→(g id).b≠pl.b) {o:Obj} (hobj:kJ T (dL g nx pl) nx.inc.num w' nx o) (hng:ng≤nx.num):HR T w0 ng (dL g nx pl) (eX hp nx (some o)) nx.inc w':=by
 have hnx:=B.fO nx;have hext:Ext g (dL g nx pl) nx.num:=lC (Nat.le_refl _);have hgn:dL g nx pl nx=pl:=by simp [dL]
 have hlt:∀ id o,hp id=some o→id.num<nx.num:=fun id o ho=>(h.obj id o ho).1
 have hg:∀ id o,hp id=some o→dL g nx pl id=g id:=fun id o ho=>hext id (hlt id o ho)
 have cases':∀ id o',eX hp nx (some o) id=some o'→(id=nx∧o'=o)∨(id≠nx∧hp id=some o'):=fun id o' ho=>by
  unfold eX at ho;split at ho
  ·rename_i e;left;simp at ho;exact ⟨e,ho.symm⟩
  ·rename_i e;exact .inr ⟨e,ho⟩
 refine ⟨hl.os.trans h.os,hl.tape.trans h.tape,hl.output.trans h.output,Nat.le_trans h.size hl.size,fun b hb=>?_,fun id o' ho=>?_,fun id id' o1 o2 h1 h2 hne hro=>?_,fun id o' ho hro=>?_,fun i hi=>?_,by omega⟩
 ·rw [hold b (Nat.lt_of_lt_of_le hb h.size) (by omega)];exact h.old b hb
 ·rcases cases' id o' ho with ⟨rfl,rfl⟩ | ⟨_,ho'⟩
  ·exact ⟨by omega,hobj⟩
  ·obtain ⟨q1,q2⟩:=h.obj id o' ho';exact ⟨by omega,q2.mono hext (by omega) q1 (hold _ q2.blk (hfree id o' ho'))⟩
 ·rcases cases' id o1 h1 with ⟨rfl,rfl⟩ | ⟨_,h1'⟩
  ·rcases cases' id' o2 h2 with ⟨rfl,_⟩ | ⟨_,h2'⟩
   ·exact absurd rfl hne
   ·rw [hgn,hg id' o2 h2'];exact fun e=>hfree id' o2 h2' e.symm
  ·rcases cases' id' o2 h2 with ⟨rfl,_⟩ | ⟨_,h2'⟩
   ·rw [hgn,hg id o1 h1'];exact hfree id o1 h1'
   ·rw [hg id o1 h1',hg id' o2 h2'];exact h.sep id id' o1 o2 h1' h2' hne hro
 ·rcases cases' id o' ho with ⟨rfl,rfl⟩ | ⟨_,ho'⟩
  ·rw [hgn];exact hpl
  ·rw [hg id o' ho'];exact h.new id o' ho' hro
 ·rw [hext (bOf i) (by rw [qx];omega)];exact h.glob i hi
theorem HR.drop {g:Gh} {hp:B→Option Obj} {nx:B} {w:World} (h:HR T w0 ng g hp nx w) (id:B):HR T w0 ng g (eX hp id none) nx w:=by
 have sub:∀ i o,eX hp id none i=some o→hp i=some o:=fun i o ho=>by
  unfold eX at ho;split at ho
  ·cases ho
  ·exact ho
 exact ⟨h.os,h.tape,h.output,h.size,h.old,fun i o ho=>h.obj i o (sub i o ho),fun i i' o o' h1 h2=>h.sep i i' o o' (sub _ _ h1) (sub _ _ h2),fun i o ho=>h.new i o (sub i o ho),h.glob,h.ngx⟩
theorem HR.write {g:Gh} {hp:B→Option Obj} {nx:B} {w w':World} (h:HR T w0 ng g hp nx w) (hl:Like ng w w') {id:B} {o o':Obj} (ho:hp id=some o) (hro:o.ro=false) (hold:∀ b,b≠(g id).b→w'.heap[b]?=w.heap[b]?)
  (hobj:kJ T g nx.num w' id o'):HR T w0 ng g (eX hp id (some o')) nx w':=by
 have cases':∀ i x,eX hp id (some o') i=some x→(i=id∧x=o')∨(i≠id∧hp i=some x):=fun i x hx=>by
  unfold eX at hx;split at hx
  ·rename_i e;left;simp at hx;exact ⟨e,hx.symm⟩
  ·rename_i e;exact .inr ⟨e,hx⟩
 have hnew:=h.new id o ho hro;refine ⟨hl.os.trans h.os,hl.tape.trans h.tape,hl.output.trans h.output,Nat.le_trans h.size hl.size,fun b hb=>?_,fun i x hx=>?_,fun i i' x y h1 h2 hne hr=>?_,fun i x hx hr=>?_,h.glob,h.ngx⟩
 ·rw [hold b (by omega)];exact h.old b hb
 ·rcases cases' i x hx with ⟨rfl,rfl⟩ | ⟨hne,hx'⟩
  ·exact ⟨(h.obj _ o ho).1,hobj⟩
  ·obtain ⟨q1,q2⟩:=h.obj i x hx';exact ⟨q1,q2.mono (.refl _ _) (Nat.le_refl _) q1 (hold _ (h.sep id i o x ho hx' (Ne.symm hne) hro).symm)⟩
 ·rcases cases' i x h1 with ⟨rfl,rfl⟩ | ⟨hn1,h1'⟩
  ·rcases cases' i' y h2 with ⟨rfl,_⟩ | ⟨_,h2'⟩
   ·exact absurd rfl hne
   ·exact h.sep _ i' o y ho h2' hne hro
  ·rcases cases' i' y h2 with ⟨rfl,_⟩ | ⟨_,h2'⟩
   ·exact (h.sep _ i o x ho h1' (Ne.symm hn1) hro).symm
   ·exact h.sep i i' x y h1' h2' hne hr
 ·rcases cases' i x hx with ⟨rfl,rfl⟩ | ⟨_,hx'⟩
  ·exact hnew
  ·exact h.new i x hx' hr
theorem iR {ng:Nat} (w:World) (o:Go.Obj):Like ng w (w.alloc o):=⟨rfl,rfl,rfl,by simp,fun _=>Nat.le_refl _⟩
theorem lg {ng:Nat} (w:World) (b:Nat) (cs:Array Value):Like ng w (w.setRow b cs):=⟨rfl,rfl,rfl,by simp,fun _=>Nat.le_refl _⟩
theorem pX {t:Tr Obj} {hp:B→Option Obj} (hs:Sub t hp) (id:B) (o:Option Obj):Sub (id.put t o) (eX hp id o):=fun i x hx=>by
 rw [B.get_put] at hx;unfold eX;split at hx
 ·rename_i e;rw [if_pos e];exact hx
 ·rename_i e;rw [if_neg e];exact hs i x hx
theorem Step.new {g:Gh} {hp:B→Option Obj} {t:Tr Obj} {nx:B} {w w':World} (h:HR T w0 ng g hp nx w) (hs:Sub t hp) (hl:Like ng w w') {n:Nat} {o:Obj} (hold:∀ b,b<w.heap.size→w'.heap[b]?=w.heap[b]?)
  (hobj:kJ T (dL g nx ⟨w.heap.size,0,n⟩) nx.inc.num w' nx o) :
  Step T w0 ng g hp t nx w (dL g nx ⟨w.heap.size,0,n⟩) (eX hp nx (some o)) (nx.put t (some o)) nx.inc w':=by
 have hnx:=B.fO nx;refine ⟨lC (Nat.le_refl _),by omega,h.add hl (fun b hb _=>hold b hb) h.size (fun id x hx e=>?_) hobj h.ngx,pX hs _ _,fun id hi hn=>?_,fun id hi hn=>?_,hl.size,hl.dr,fun b hb _=>hold b hb,fun id o' h1 h2=>?_,fun id o' h1 h2=>?_⟩
 ·have:=(h.obj id x hx).2.blk;simp only at e;omega
 ·unfold eX;rw [if_neg (fun e=>by rw [e] at hi;omega)]
 ·rw [B.get_put,if_neg (fun e=>by rw [e] at hi;omega)];exact hn
 ·rw [B.get_put] at h1;unfold dL;split at h1
  ·rename_i e;rw [if_pos e];exact .inl (Nat.le_refl _)
  ·rename_i e;rw [if_neg e];exact .inr ⟨id,o',h1,h2,rfl⟩
 ·unfold eX at h1;unfold dL;split at h1
  ·rename_i e;rw [if_pos e];exact .inl (Nat.le_refl _)
  ·exact absurd (h.obj id o' h1).1 (Nat.not_lt.2 h2)
theorem Step.write {g:Gh} {hp:B→Option Obj} {t:Tr Obj} {nx:B} {w w':World} (h:HR T w0 ng g hp nx w) (hs:Sub t hp) (hl:Like ng w w') {id:B} {o o':Obj} (ho:id.get t=some o) (hro:o.ro=false) (hold:∀ b,b≠(g id).b→w'.heap[b]?=w.heap[b]?)
  (hobj:kJ T g nx.num w' id o'):Step T w0 ng g hp t nx w g (eX hp id (some o')) (id.put t (some o')) nx w':=by
 refine ⟨.refl _ _,Nat.le_refl _,h.write hl (hs id o ho) hro hold hobj,pX hs _ _,fun i hi hn=>?_,fun i hi hn=>?_,hl.size,hl.dr,fun b hb hn=>hold b (Ne.symm (hn id o ho hro)),fun i o2 h1 h2=>?_,fun i o2 h1 h2=>?_⟩
 ·unfold eX;rw [if_neg (fun e=>by rw [e,ho] at hn;cases hn)]
 ·rw [B.get_put,if_neg (fun e=>by rw [e,ho] at hn;cases hn)];exact hn
 ·rw [B.get_put] at h1;split at h1
  ·rename_i e;exact .inr ⟨id,o,ho,hro,by rw [e]⟩
  ·exact .inr ⟨i,o2,h1,h2,rfl⟩
 ·unfold eX at h1;split at h1
  ·rename_i e;rw [e] at h2;exact absurd (h.obj id o (hs id o ho)).1 (Nat.not_lt.2 h2)
  ·exact absurd (h.obj i o2 h1).1 (Nat.not_lt.2 h2)
theorem Step.drop {g:Gh} {hp:B→Option Obj} {t:Tr Obj} {nx:B} {w:World} (h:HR T w0 ng g hp nx w) (hs:Sub t hp) {id:B} {o:Obj} (ho:id.get t=some o):Step T w0 ng g hp t nx w g (eX hp id none) (id.put t none) nx w:=by
 refine ⟨.refl _ _,Nat.le_refl _,h.drop id,pX hs _ _,fun i hi hn=>?_,fun i hi hn=>?_,Nat.le_refl _,fun _=>Nat.le_refl _,fun _ _ _=>rfl,fun i o2 h1 h2=>?_,fun i o2 h1 h2=>?_⟩
 ·unfold eX;rw [if_neg (fun e=>by rw [e,ho] at hn;cases hn)]
 ·rw [B.get_put,if_neg (fun e=>by rw [e,ho] at hn;cases hn)];exact hn
 ·rw [B.get_put] at h1;split at h1
  ·cases h1
  ·exact .inr ⟨i,o2,h1,h2,rfl⟩
 ·exact absurd ((h.drop id).obj i o2 h1).1 (Nat.not_lt.2 h2)
def CR (g:Gh) (n:Nat) (cs:Tr V) (arr:Array Value):Prop:=∀ (j:Nat) v,(bOf j).get cs=some v→∃ u,arr[j]?=some u∧RV g n v u∧u.oneCell'=true
theorem CR.lf {g:Gh} {n:Nat} {arr:Array Value}:CR g n .lf arr:=fun j v h=>by rw [B.dO] at h;cases h
theorem CR.mono {g g':Gh} {n n':Nat} {cs:Tr V} {arr:Array Value} (he:Ext g g' n) (hn:n≤n') (h:CR g n cs arr):CR g' n' cs arr:=fun j v hv=>by
 obtain ⟨u,h1,h2,h3⟩:=h j v hv;exact ⟨u,h1,h2.mono he hn,h3⟩
theorem CR.put {g:Gh} {n:Nat} {cs:Tr V} {arr:Array Value} (h:CR g n cs arr) {vs:List V} {us:List Value} (hl:us.length=vs.length) (hr:∀ (i:Nat) c u,vs[i]?=some c→us[i]?=some u→RV g n c u∧u.oneCell'=true) {off:Nat} (hfit:off+us.length≤arr.size) :
  CR g n (fB vs cs off) (patch arr off us):=fun j v hv=>by
 rw [bY] at hv;split at hv
 ·rename_i hj;have hi:j-off<us.length:=by omega
  have hu:us[j-off]?=some us[j-off]:=List.getElem?_eq_getElem hi;refine ⟨us[j-off],?_,hr _ v _ hv hu⟩;have:=patch_in hfit hi;rw [show off+(j-off)=j by omega] at this;rw [this,hu]
 ·rename_i hj;obtain ⟨u,h1,h2⟩:=h j v hv;refine ⟨u,?_,h2⟩;rw [patch_out hfit (by omega)];exact h1
theorem CR.MJ {g:Gh} {n:Nat} {vs:List V} {us:List Value} (hl:us.length=vs.length) (hr:∀ (i:Nat) c u,vs[i]?=some c→us[i]?=some u→RV g n c u∧u.oneCell'=true) {arr:Array Value} (ha:∀ i,i<us.length→arr[i]?=us[i]?):CR g n (fB vs .lf 0) arr:=fun j v hv=>by
 rw [bY] at hv;split at hv
 ·rename_i hj;simp only [Nat.sub_zero] at hv;have hi:j<us.length:=by omega
  exact ⟨us[j],by rw [ha j hi];exact List.getElem?_eq_getElem hi,hr _ v _ hv (List.getElem?_eq_getElem hi)⟩
 ·rw [B.dO] at hv;cases hv
theorem tH {vs:List V} {cs:Tr V} {off m:Nat} (h:∀ j v,(bOf j).get cs=some v→j<m) (hm:off+vs.length≤m):∀ j v,(bOf j).get (fB vs cs off)=some v→j<m:=fun j v hv=>by
 rw [bY] at hv;split at hv
 ·omega
 ·exact h j v hv
theorem Nz {m:Nat}:∀ j v,(bOf j).get (.lf:Tr V)=some v→j<m:=fun j v h=>by rw [B.dO] at h;cases h
theorem Nv {g:Gh} {hp:B→Option Obj} {t:Tr Obj} {nx:B} {w w':World} (h:HR T w0 ng g hp nx w) (hs:Sub t hp) (hl:Like ng w w') {cur:Array Value} {Tb:TypeId} (hw:w'.heap[w.heap.size]?=some (.cells cur Tb (0,0)))
  (hold:∀ b,b<w.heap.size→w'.heap[b]?=w.heap[b]?) {cs:Tr V} {m:Nat} (hc:CR g nx.num cs cur) (hm:m≤cur.size) (hlt:∀ j v,(bOf j).get cs=some v→j<m) :
  Step T w0 ng g hp t nx w (dL g nx ⟨w.heap.size,0,cur.size⟩) (eX hp nx (some (.blk false m m cs))) (nx.put t (some (.blk false m m cs))) nx.inc w':=by
 have hext:Ext g (dL g nx ⟨w.heap.size,0,cur.size⟩) nx.num:=lC (Nat.le_refl _);have hgn:dL g nx ⟨w.heap.size,0,cur.size⟩ nx=⟨w.heap.size,0,cur.size⟩:=by simp [dL]
 refine .new h hs hl hold ⟨cur,Tb,(0,0),by rw [hgn];exact hw,fun _=>rfl,by rw [hgn];simp,by rw [hgn];exact hm,fun j v hv=>?_⟩;obtain ⟨u,h1,h2,h3⟩:=hc j v hv;exact ⟨hlt j v hv,u,by rw [hgn];simpa using h1,h2.mono hext (by rw [B.fO];omega),h3⟩
theorem gy {R:Type} (sz:Nat) (cs:Tr V) (t:Tr Obj) (nx:B) (K:Tr Obj→B→R):nM sz cs t nx K=K (nx.put t (some (.blk false sz sz cs))) nx.inc:=by
 unfold nM;rw [B.eu,B.E8]
theorem zA {cs:List V} {t:Tr Obj} {nx:B} {K:KV} {r:R} (hr:∀ n,R.bad n≠r) (h:mkVar cs t nx K=r) :
  List.all cs one=true∧K (.ptr nx 0) (nx.put t (some (.blk false cs.length cs.length (fB cs .lf 0)))) nx.inc=r:=by
 obtain ⟨h1,h2⟩:=aG h (hr _);rw [dS,aI,gy] at h2;exact ⟨h1,h2⟩
theorem Gz {g:Gh} {hp:B→Option Obj} {t:Tr Obj} {nx:B} {w:World} (h:HR T w0 ng g hp nx w) (hs:Sub t hp) {v:V} {u:Value} (hv:RV g nx.num v u) (h1:List.all (cellsOf v) one=true) (Tb:TypeId) :
  ∃ g' hp',Step T w0 ng g hp t nx w g' hp' (nx.put t (some (.blk false (cellsOf v).length (cellsOf v).length (fB (cellsOf v) .lf 0)))) nx.inc (w.alloc (.cells u.cells Tb)) ∧
    RV g' nx.inc.num (.ptr nx 0) (.pointer (some ⟨w.heap.size,0,none⟩)):=by
 obtain ⟨q1,q2⟩:=hv.cells h1;have hc:CR g nx.num (fB (cellsOf v) .lf 0) u.cells:=CR.MJ (us:=u.cells.toList) (by simpa using q1) (fun i c x hc hx=>q2 i c x hc (by simpa using hx)) (fun i hi=>by simp);have st:=Nv (T:=T) h hs (iR w (.cells u.cells Tb)) (heap_alloc_new w _) (fun b hb=>heap_alloc_old w _ b hb) hc (m:=(cellsOf v).length) (by omega) (tH Nz (by omega));refine ⟨_,_,st,?_⟩;have:=RV.ptr (g:=dL g nx ⟨w.heap.size,0,u.cells.size⟩) (n:=nx.inc.num) nx 0 (by rw [B.fO];omega)
 simpa [dL] using this
theorem QD (hT:TOK P T) {o:Oper} {t:Nat} (ho:o.op = .alloc t):HOK P T w0 ng o (KQ t):=by
 intro call _ vals hh nx K r hr h;obtain ⟨hkn,k1⟩:=aG h (hr _);obtain ⟨h1,k2⟩:=zA hr k1;obtain ⟨d,i,hf⟩:=hT.facts (Abs.TE.bg hkn);refine ⟨_,_,_,k2,.of_run fun g hp ρ w g1 g2 g3=>?_⟩;obtain ⟨g',hp',st,hv⟩:=Gz g1 g2 (qL g nx.num (T t).zero) h1 t;exact ⟨_,_,g',hp',.inl (by simp [execOp,ho,Instr.alloc,zeroValue,typeInfo,hf.info,hf.zero,newVar,Go.newRow]),st,hv⟩
theorem X7 {o:Oper} {t:Nat} {x:Operand} (ho:o.op = .box t x):HOK P T w0 ng o ahw:=by
 intro call _ vals hh nx K r hr h;obtain ⟨v,rfl,k1⟩:=ku h (hr _);obtain ⟨h1,k2⟩:=zA hr k1;refine ⟨_,_,_,k2,.of_run fun g hp ρ w g1 g2 g3=>?_⟩;have hx:=qF (x:=x) (by simp [ho,Op.operands]) g3;obtain ⟨g',hp',st,hv⟩:=Gz g1 g2 hx h1 t;exact ⟨_,_,g',hp',.inl (by simp [execOp,ho,Instr.box,newVar,Go.newRow]),st,hv⟩
theorem oN {R:Type} {id:B} {off:Nat} {vs:List V} {t:Tr Obj} {K:Tr Obj→R} {e r:R} (h:oO id off vs t K e=r) (he:e≠r) :
  ∃ sz hi cs,id.get t=some (.blk false sz hi cs)∧off+vs.length≤sz∧List.all vs one=true∧K (id.put t (some (.blk false sz (max hi (off+vs.length)) (fB vs cs off))))=r:=by
 obtain ⟨ro,sz,hi,cs,h1,h2⟩:=fK h he;rw [aQ] at h2;split at h2
 ·exact absurd h2 he
 ·rename_i hro;have hro:ro=false:=by simpa using hro
  subst hro;rw [aI] at h2;obtain ⟨h3,h4⟩:=aG h2 he;obtain ⟨h5,h6⟩:=aB h3;rw [dS,aI,B.eu] at h4;exact ⟨sz,hi,cs,h1,aY.1 h5,h6,h4⟩
theorem sZ {g:Gh} {hp:B→Option Obj} {t:Tr Obj} {nx:B} {w:World} (h:HR T w0 ng g hp nx w) (hs:Sub t hp) {id:B} {sz hi:Nat} {cs:Tr V} (hg:id.get t=some (.blk false sz hi cs)) {off:Nat} {vs:List V} {us:List Value} (hl:us.length=vs.length)
  (hr:∀ (i:Nat) c u,vs[i]?=some c→us[i]?=some u→RV g nx.num c u∧u.oneCell'=true) (hfit:off+vs.length≤sz) :
  ∃ cur Tb,w.heap[(g id).b]?=some (.cells cur Tb (0,0))∧(g id).o+off+us.length≤cur.size ∧
    Step T w0 ng g hp t nx w g (eX hp id (some (.blk false sz (max hi (off+vs.length)) (fB vs cs off)))) (id.put t (some (.blk false sz (max hi (off+vs.length)) (fB vs cs off)))) nx (w.setRow (g id).b (patch cur ((g id).o+off) us)):=by
 obtain ⟨cur,Tb,fz,e1,e2,e3,e4,e5⟩:=h.blk hs hg;have e2:=e2 rfl;subst e2;have hfit':(g id).o+off+us.length≤cur.size:=by omega
 refine ⟨cur,Tb,e1,hfit',.write h hs (lg _ _ _) hg rfl (fun b hb=>setRow_other w _ b _ hb) ⟨patch cur ((g id).o+off) us,Tb,(0,0),setRow_heap w _ cur _ Tb (0,0) e1,fun _=>rfl,by rw [size_patch hfit'];exact e3,e4,fun j v hv=>?_⟩⟩;rw [bY] at hv;split at hv
 ·rename_i hj;have hi:j-off<us.length:=by omega
  have hu:us[j-off]?=some us[j-off]:=List.getElem?_eq_getElem hi;refine ⟨by omega,us[j-off],?_,hr _ v _ hv hu⟩;have:=patch_in hfit' hi;rw [show (g id).o+off+(j-off)=(g id).o+j by omega] at this;rw [this,hu]
 ·rename_i hj;obtain ⟨q1,u,q2,q3⟩:=e5 j v hv;refine ⟨by omega,u,?_,q3⟩;rw [patch_out hfit' (by omega)];exact q2
theorem QA (hT:TOK P T) {o:Oper} {t:Nat} {x y:Operand} (ho:o.op = .store t x y):HOK P T w0 ng o (zO t):=by
 intro call _ vals hh nx K r hr h;obtain ⟨p,v,rfl,k1⟩:=lq h (hr _);obtain ⟨id,off,rfl,k2⟩:=jq k1 (hr _);obtain ⟨hb,k3⟩:=aG k2 (hr _);obtain ⟨hkn,hsz⟩:=aB hb;obtain ⟨sz,hi,cs,hg,hfit,h1,k4⟩:=oN k3 (hr _);obtain ⟨d,i,hf⟩:=hT.facts (Abs.TE.bg hkn);have hsz':=beq_iff.1 hsz;refine ⟨_,_,_,k4,.of_run fun g hp ρ w g1 g2 g3=>?_⟩;obtain ⟨hx,hy⟩:=oK (x:=x) (y:=y) (by simp [ho,Op.operands]) g3;obtain ⟨q1,q2⟩:=hy.cells h1;generalize hvx:ρ x=vx at hx;cases hx;obtain ⟨cur,Tb,e1,e2,st⟩:=sZ g1 g2 hg (us:=(ρ y).cells.toList) (by simpa using q1) (fun i c u hc hu=>q2 i c u hc (by simpa using hu)) hfit
 have hrun:=Abs.Ei (P:=P) w hf (g id).b ((g id).o+off) cur Tb e1 (ρ y) (by omega) (by simpa using e2) (fun u hu=>by
  obtain ⟨j,hj⟩:=List.getElem?_of_mem hu;have hjl:j<(cellsOf v).length:=by rw [← q1];have:=(List.getElem?_eq_some_iff.1 hj).1;simpa using this
  exact (q2 j _ u (List.getElem?_eq_getElem hjl) (by simpa using hj)).2)
 exact ⟨undef,_,_,_,.inr ⟨by simp [execOp,ho,hvx,hrun],rfl⟩,st,.any _⟩
end
end Go.Sim
