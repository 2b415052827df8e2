/- Walks: the numbers of set bits. -/
import Derived.Test.YtdonenoiehdahaaGreatLuAAnd
import Derived.Test.YtdonenoiehdahaaGreatLsXAnd
import Derived.Test.YtdonenoiehdahaaGreatGrYAnd
import Derived.Deep.Matrix
import Derived.Deep.Strs
set_option linter.all false
namespace Go.Own
def TJ (b i:Nat):Bool:=b / 2 ^ i % 2==1
def jD (b k:Nat):List Int:=((List.range k).filter (TJ b)).map fun i=>((i:Nat):Int)
theorem PI (b k:Nat):jD b (k+1)=jD b k++(match TJ b k with | true=>[((k:Nat):Int)] | false=>[]):=by
 unfold jD;rw [List.range_succ,List.filter_append,List.map_append];cases hb:TJ b k with
 | true=>rw [List.filter_cons_of_pos hb];rfl
 | false=>rw [List.filter_cons_of_neg (by rw [hb];simp)];rfl
theorem zU (b k:Nat):(jD b k).length≤k:=by
 unfold jD;rw [List.length_map];exact Nat.le_trans (List.length_filter_le _ _) (by simp)
end Go.Own
namespace Go.Proofs.YtdonenoiehdahaaGreat
open Go Go.Abs Go.Own
attribute [local irreducible] WP
theorem ZB (b i:Nat) (hb:b<18446744073709551616) (hi:i<64):(bitsOf .and .u64 (((b:Nat):Int).fdiv (2 ^ min (((i:Nat):Int)).toNat IntKind.u64.bits)) 1==1)=TJ b i:=by
 have e1:((b:Nat):Int).fdiv (2 ^ min (((i:Nat):Int)).toNat IntKind.u64.bits)=((b / 2 ^ i:Nat):Int):=by
  rw [show min (((i:Nat):Int)).toNat IntKind.u64.bits=i from by show min (((i:Nat):Int)).toNat 64=i;omega,Int.fdiv_eq_ediv_of_nonneg _ (Int.pow_nonneg (by decide))]
  exact_mod_cast (Int.natCast_ediv b (2 ^ i)).symm
 have hl:b / 2 ^ i<18446744073709551616:=Nat.lt_of_le_of_lt (Nat.div_le_self _ _) hb;rw [e1];unfold TJ;generalize b / 2 ^ i=m at hl;have e2:(BitVec.ofInt 64 ((m:Nat):Int) &&& BitVec.ofInt 64 1).toNat=m % 2:=by
  rw [BitVec.toNat_and,BitVec.ofInt_natCast,BitVec.toNat_ofNat,Nat.mod_eq_of_lt (by omega),show (BitVec.ofInt 64 1).toNat=1 from rfl,Nat.and_one_is_mod]
 have e3:bitsOf .and .u64 ((m:Nat):Int) 1=((m % 2:Nat):Int):=by
  show IntKind.u64.wrap (((BitVec.ofInt 64 ((m:Nat):Int) &&& BitVec.ofInt 64 1).toNat:Nat):Int)=_;rw [e2,wrap_u64 _ (by omega)]
 rw [e3,Bool.eq_iff_iff,beq_iff_eq,beq_iff_eq];omega
theorem Tryz.YA (b most:Nat) (hb:b<18446744073709551616) (hm:most≤1000000):Pure Tryz.prog 19 [.int .u64 b,.int .i64 most] [.list ((jD b (min most 64)).map enI)]:=by
 refine Pure.of_wp hT (nt:=_) (c:=_) Tryz.func19 rfl rfl rfl rfl (by kernel_rfl) ?_;intro w0 ok0 β0;repeat (refine gw rfl ?_;conv=>whnf)
 refine WP.loop (α:=Nat) (fun i=>⟨[(0,.d (.int .u64 b)),(1,.d (.int .i64 most)),(5,.sl 60 1 0 (jD b i).length),(6,.d (.int .i64 i))],[((60,0),some (.arr 1 ((jD b i).map enI)))],[60]⟩)
  (fun i=>i≤min most 64) (fun i=>min most 64-i) 0 [(60,none)] [] ?_ ?_ ?_
 ·((conv=>whnf);repeat (first | exact ⟨⟩ | (refine ⟨by first | rfl | (simp;done) | (simp;omega),?_⟩;conv=>whnf)))
 ·exact Nat.zero_le _
 ·intro i hi;have hsu:=PI b i;have hll:=zU b i;generalize hSe:jD b i=S at hsu hll ⊢;repeat (refine gw rfl ?_;conv=>whnf)
  by_cases h1:i<most
  ·rw [show decide (((i:Nat):Int)<((most:Nat):Int))=true from decide_eq_true (by omega)];(conv=>whnf);(repeat (refine gw rfl ?_;conv=>whnf));by_cases h2:i<64
   ·rw [show decide (((i:Nat):Int)<64)=true from decide_eq_true (by omega)];(conv=>whnf);(repeat (refine gw rfl ?_;conv=>whnf));refine ⟨by omega,?_⟩;(conv=>whnf);(repeat (refine gw rfl ?_;conv=>whnf));rw [ZB b i hb h2];cases hd:TJ b i with
    | false=>
      rw [hd] at hsu;(conv=>whnf);(repeat (refine gw rfl ?_;conv=>whnf));refine ⟨by omega,?_⟩;(conv=>whnf);refine ⟨i+1,[(60,some 60)],[],?_,by omega,by omega⟩;rw [hsu,List.append_nil];((conv=>whnf);repeat (first | exact ⟨⟩ | (refine ⟨by first | rfl | (simp;done) | (simp;omega),?_⟩;conv=>whnf)))
    | true=>
      rw [hd] at hsu;conv=>whnf
      trace_state
      repeat (refine gw rfl ?_;conv=>whnf)
      (refine ⟨rfl,?_⟩;(conv=>whnf);refine ⟨_,(congrArg (List.take _) List.drop_zero).trans (List.take_of_length_le (by first | (simp;done) | (simp;omega))),by first | (simp;done) | (simp;omega),?_⟩;(conv=>whnf);refine ⟨_,rfl,Nat.le_refl _,?_⟩;(conv=>whnf);refine ⟨by show (_+1)*8≤_;first | (simp;done) | (simp;omega),?_⟩;(conv=>whnf))
      (repeat (refine gw rfl ?_;conv=>whnf));refine ⟨by omega,?_⟩;(conv=>whnf);refine ⟨i+1,[(60,some 24)],[],?_,by omega,by omega⟩;rw [hsu,List.map_append,List.map_singleton,List.length_append,List.length_singleton];((conv=>whnf);repeat (first | exact ⟨⟩ | (refine ⟨by first | rfl | (simp;done) | (simp;omega),?_⟩;conv=>whnf)))
   ·have hie:i=min most 64:=(by omega);rw [show decide (((i:Nat):Int)<64)=false from decide_eq_false (by omega)];rw [← hie,hSe];(conv=>whnf);(repeat (refine gw rfl ?_;conv=>whnf));refine ⟨S.map enI,by rw [List.drop_zero];exact List.take_of_length_le (by simp),by simp,?_⟩;conv=>whnf
  ·have hie:i=min most 64:=(by omega);rw [show decide (((i:Nat):Int)<((most:Nat):Int))=false from decide_eq_false (by omega)];rw [← hie,hSe];(conv=>whnf);(repeat (refine gw rfl ?_;conv=>whnf));refine ⟨S.map enI,by rw [List.drop_zero];exact List.take_of_length_le (by simp),by simp,?_⟩;conv=>whnf
end Go.Proofs.YtdonenoiehdahaaGreat
namespace Go.Own
def Px (k:Nat):Str:=[UInt8.ofNat (48+k % 10)]
def LD:Nat→Nat→Str→Str
 | 0,_,s=>s
 | f+1,k,s=>if 0<k∨s=[] then LD f (k / 10) (Px k++s) else s
def Bo (n:Nat):Str:=LD 4 n []
end Go.Own
namespace Go.Proofs.YtdonenoiehdahaaGreat
open Go Go.Abs Go.Own
attribute [local irreducible] WP
theorem Tryz.D7 (atoms:List Tm) (rules:List Gr) (m:List Int) (nm:Str) (args:List Tm) (hl:atoms.length≤1000000) (hok:∀ x∈atoms,okT x) (hm:m.length≤1000000) (ha:args.length≤10) (hoka:∀ x∈args,okT x) :
  Pure Tryz.prog 63 [gD atoms rules,.list (m.map enI),.str nm,.list (args.map enT)] [.bool (inM atoms m (.mk nm args))]:=by
 have hF:=Tryz.Zq atoms rules (.mk nm args) hl hok (aW.2 ⟨by show args.length≤_;omega,hoka⟩);refine Pure.of_wp hT (nt:=_) (c:=_) Tryz.func63 rfl rfl rfl rfl (by kernel_rfl) ?_;intro w0 ok0 β0;repeat (refine gw rfl ?_;conv=>whnf)
 iterate 2
  refine ⟨rfl,?_⟩;conv=>whnf
 refine .inl ⟨_,hF,.inl rfl,?_⟩;conv=>whnf
 repeat (refine gw rfl ?_;conv=>whnf)
 unfold inM;generalize zn (.mk nm args) 0 atoms=n;refine WP.loop (α:=Nat) (fun i=>⟨[(1,.d (.list (m.map enI))),(9,.d (.int .i64 n)),(10,.d (.int .i64 i))],[],[]⟩) (fun i=>i≤m.length∧∀ j (hj:j<m.length),j<i→(m[j]==n&&decide (n≥0))=false) (fun i=>m.length-i) 0 [] [] ?_ ?_ ?_
 ·((conv=>whnf);repeat (first | exact ⟨⟩ | (refine ⟨by first | rfl | (simp;done) | (simp;omega),?_⟩;conv=>whnf)))
 ·exact ⟨Nat.zero_le _,fun j _ hj=>by omega⟩
 ·rintro i ⟨hi,ht⟩;repeat (refine gw rfl ?_;conv=>whnf)
  rw [List.length_map];(split<;>rename_i hb<;>(try rw [hb])<;>(conv=>whnf))
  ·have hlt:i<m.length:=(by simpa using hb);clear hb;have hgt:=qN hlt;have hxe:∀ b,(m[i]==n&&decide (n≥0))=b→(match b with | true=>(m.any fun x=>x==n&&decide (n≥0))=true | false=>∀ j (hj:j<m.length),j<i+1→(m[j]==n&&decide (n≥0))=false):=fun b hb=>by
    cases b with
    | true=>exact List.any_eq_true.2 ⟨_,List.getElem_mem hlt,hb⟩
    | false=>
      intro j hj hji;rcases Nat.lt_or_ge j i with h' | h'
      ·exact ht j hj h'
      ·obtain rfl:j=i:=by omega
       exact hb
   generalize m[i]=x at hgt hxe;(repeat (refine gw rfl ?_;conv=>whnf));refine ⟨by omega,_,hgt,rfl,?_⟩;(conv=>whnf);(repeat (refine gw rfl ?_;conv=>whnf));cases hd:x==n with
   | true=>
     (conv=>whnf);(repeat (refine gw rfl ?_;conv=>whnf));rw [hd,Bool.true_and] at hxe;cases hd2:decide (n≥0) with
     | true=>
       have hx:=hxe _ hd2;rw [hd2] at hx;(conv=>whnf);(repeat (refine gw rfl ?_;conv=>whnf));rw [hx]
     | false=>
       have hx:=hxe _ hd2;rw [hd2] at hx;(conv=>whnf);(repeat (refine gw rfl ?_;conv=>whnf));refine ⟨by omega,?_⟩;(conv=>whnf);refine ⟨i+1,[],[],?_,⟨by omega,hx⟩,by omega⟩;((conv=>whnf);repeat (first | exact ⟨⟩ | (refine ⟨by first | rfl | (simp;done) | (simp;omega),?_⟩;conv=>whnf)))
   | false=>
     rw [hd,Bool.false_and] at hxe;(conv=>whnf);(repeat (refine gw rfl ?_;conv=>whnf));refine ⟨by omega,?_⟩;(conv=>whnf);refine ⟨i+1,[],[],?_,⟨by omega,hxe _ rfl⟩,by omega⟩;((conv=>whnf);repeat (first | exact ⟨⟩ | (refine ⟨by first | rfl | (simp;done) | (simp;omega),?_⟩;conv=>whnf)))
  ·have hie:i=m.length:=(by simp at hb;omega);subst hie;clear hb
   rw [show (m.any fun x=>x==n&&decide (n≥0))=false from List.any_eq_false.2 fun x hx=>by
    obtain ⟨j,hj,rfl⟩:=List.mem_iff_getElem.1 hx
    rw [ht j hj hj];simp]
   repeat (refine gw rfl ?_;conv=>whnf)
theorem VJ:∀ m:Nat,m<10→List.drop ((some ((m:Nat):Int)).getD 0).toNat (List.take ((some (((m:Nat):Int)+1)).getD (((⟨#[48,49,50,51,52,53,54,55,56,57]⟩:ByteArray).data.toList.length:Nat):Int)).toNat (⟨#[48,49,50,51,52,53,54,55,56,57]⟩:ByteArray).data.toList)=[UInt8.ofNat (48+m)]:=by decide
theorem Tryz.Xe (n:Nat) (hn:n≤100):Pure Tryz.prog 64 [.int .i64 n] [tD (Bo n) []]:=by
 refine Pure.of_wp hT (nt:=_) (c:=_) Tryz.func64 rfl rfl rfl rfl (by kernel_rfl) ?_;intro w0 ok0 β0;repeat (refine gw rfl ?_;conv=>whnf)
 refine WP.loop (α:=Nat×Str×Nat) (fun q=>⟨[(2,.ptr 2 0),(3,.d (.str q.2.1)),(4,.d (.int .i64 q.1))],[((2,0),some (.cell (.d (.str [])))),((2,1),some (.cell (.d (.list []))))],[2]⟩) (fun q=>LD q.2.2 q.1 q.2.1=Bo n∧q.1<10 ^ q.2.2∧(q.2.1=[]→1≤q.2.2)∧q.2.1.length+q.2.2≤4) (fun q=>q.2.2) (n,[],4) [(2,some 2)] [] ?_ ?_ ?_
 ·((conv=>whnf);repeat (first | exact ⟨⟩ | (refine ⟨by first | rfl | (simp;done) | (simp;omega),?_⟩;conv=>whnf)))
 ·exact ⟨rfl,by show n<10 ^ 4;omega,fun _=>by show 1≤4;decide,by show 0+4≤4;decide⟩
 ·rintro q ⟨h1,h2,h3,h4⟩;generalize q.1=k at *;generalize q.2.1=s at *;generalize q.2.2=f at *;have hk4:k<10 ^ 4:=Nat.lt_of_lt_of_le h2 (Nat.pow_le_pow_right (by decide) (by omega));have hde:(((k:Nat):Int)).tdiv 10=((k / 10:Nat):Int):=by rw [Int.tdiv_eq_ediv_of_nonneg (by omega)];omega
  have hnext:(0<k∨s=[])→∃ f',f=f'+1∧LD f' (k / 10) (Px k++s)=Bo n∧k / 10<10 ^ f'∧(Px k++s).length+f'≤4:=fun hc=>by
   cases f with
   | zero=>
     rcases hc with hc | hc
     ·simp at h2;omega
     ·have:=h3 hc;omega
   | succ f=>
     refine ⟨f,rfl,?_,?_,by show List.length ([_]++s)+f≤4;simp;omega⟩
     ·rw [← h1];show _=if 0<k∨s=[] then _ else _
      rw [if_pos hc]
     ·rw [Nat.pow_succ] at h2;omega
  have hme:(((k:Nat):Int)).tmod 10=((k % 10:Nat):Int):=by rw [Int.tmod_eq_emod_of_nonneg (by omega)];omega
  repeat (refine gw rfl ?_;conv=>whnf)
  cases hd:decide (((k:Nat):Int)>0) with
  | true=>
    obtain ⟨f',hf,n1,n2,n3⟩:=hnext (.inl (by have:=of_decide_eq_true hd;omega));(conv=>whnf);(repeat (refine gw rfl ?_;conv=>whnf));refine ⟨by decide,?_⟩;(conv=>whnf);(repeat (refine gw rfl ?_;conv=>whnf));refine ⟨by decide,?_⟩;(conv=>whnf);(repeat (refine gw rfl ?_;conv=>whnf));rw [hme];refine ⟨by omega,?_⟩;(conv=>whnf);(repeat (refine gw rfl ?_;conv=>whnf));refine ⟨rfl,⟨by show (0:Int)≤((k % 10:Nat):Int);omega,by show ((k % 10:Nat):Int)≤((k % 10:Nat):Int)+1;omega,by show ((k % 10:Nat):Int)+1≤10;omega⟩,?_⟩;(conv=>whnf);(repeat (refine gw rfl ?_;conv=>whnf));rw [VJ _ (Nat.mod_lt _ (by decide))];refine ⟨by show 1+List.length _≤_;exact Nat.le_trans (show _≤5 by first | omega | (simp;done)) (by decide),?_⟩;(conv=>whnf);(repeat (refine gw rfl ?_;conv=>whnf));refine ⟨by decide,?_⟩;rw [hde];(conv=>whnf);refine ⟨by omega,?_⟩;(conv=>whnf);refine ⟨(k / 10,Px k++s,f'),[(2,some 2)],[],?_,⟨n1,n2,fun h=>absurd h (by simp [Px]),n3⟩,by show f'<f;omega⟩;((conv=>whnf);repeat (first | exact ⟨⟩ | (refine ⟨by first | rfl | (simp;done) | (simp;omega),?_⟩;conv=>whnf)))
  | false=>
    cases s with
    | nil=>
      obtain ⟨f',hf,n1,n2,n3⟩:=hnext (.inr rfl);(conv=>whnf);(repeat (refine gw rfl ?_;conv=>whnf));refine ⟨by decide,?_⟩;(conv=>whnf);(repeat (refine gw rfl ?_;conv=>whnf));refine ⟨by decide,?_⟩;(conv=>whnf);(repeat (refine gw rfl ?_;conv=>whnf));rw [hme];refine ⟨by omega,?_⟩;(conv=>whnf);(repeat (refine gw rfl ?_;conv=>whnf));refine ⟨rfl,⟨by show (0:Int)≤((k % 10:Nat):Int);omega,by show ((k % 10:Nat):Int)≤((k % 10:Nat):Int)+1;omega,by show ((k % 10:Nat):Int)+1≤10;omega⟩,?_⟩;(conv=>whnf);(repeat (refine gw rfl ?_;conv=>whnf));rw [VJ _ (Nat.mod_lt _ (by decide))];refine ⟨by show 1+List.length _≤_;exact Nat.le_trans (show _≤5 by first | omega | (simp;done)) (by decide),?_⟩;(conv=>whnf);(repeat (refine gw rfl ?_;conv=>whnf));refine ⟨by decide,?_⟩;rw [hde];(conv=>whnf);refine ⟨by omega,?_⟩;(conv=>whnf);refine ⟨(k / 10,Px k++[],f'),[(2,some 2)],[],?_,⟨n1,n2,fun h=>absurd h (by simp [Px]),n3⟩,by show f'<f;omega⟩;((conv=>whnf);repeat (first | exact ⟨⟩ | (refine ⟨by first | rfl | (simp;done) | (simp;omega),?_⟩;conv=>whnf)))
    | cons c s=>
      (conv=>whnf);(repeat (refine gw rfl ?_;conv=>whnf));refine ⟨rfl,?_⟩;(conv=>whnf);(repeat (refine gw rfl ?_;conv=>whnf));have hk:k=0:=(by have:=of_decide_eq_false hd;omega);rw [hk,show LD f 0 (c::s)=c::s from by cases f<;>rfl] at h1;rw [← h1];rfl
theorem Xh:∀ n:Nat,n≤100→bF (Bo n)=true∧eu (Bo n)=n:=by decide
theorem Xi {s:Str} (h:bF s=true) (hv:eu s≤100):s=Bo (eu s).toNat:=by
 have h0:=Au s;obtain ⟨h1,h2⟩:=Xh (eu s).toNat (by omega);exact Lu h h1 (by omega)
def Agr (atoms:List Tm) (m:List Int) (v:List Bool) (y:Int) (u:Tm):Prop:=0≤y∧y.toNat<v.length∧mV v y=inM atoms m u
theorem Agr.at {atoms:List Tm} {m:List Int} {v:List Bool} {y:Int} {u:Tm} (h:Agr atoms m v y u):(v.map D.bool)[y.toNat]?=some (.bool (inM atoms m u)):=by
 obtain ⟨_,h2,h3⟩:=h;rw [List.getElem?_map,List.getElem?_eq_getElem h2,← h3];unfold mV;simp [h2]
set_option maxRecDepth 10000 in
theorem Tryz.UD (gs:List Gt) (roles bases:List Tm) (ins:List In) (ini next legal:List Int) (gl sl:List Ot) (term:Int) (hid:Bool) (atoms:List Tm) (rules:List Gr) (m:List Int) (v:List Bool)
  (hl:atoms.length≤1000000) (hok:∀ x∈atoms,okT x) (hm:m.length≤1000000) (b1:bases.length≤1000000) (b2:ins.length≤1000000) (b3:gl.length≤1000000) (b4:sl.length≤1000000)
  (okr:∀ x∈roles,okT x) (okb:∀ x∈bases,okT x) (oki:∀ x∈ins,okT x.2∧x.1<roles.length) (okg:∀ x∈gl,x.1<roles.length∧0≤x.2.1∧x.2.1≤100) (oks:∀ x∈sl,okT x.2.2.1∧x.1<roles.length)
  (h1:∀ i (hi:i<bases.length),∃ y,next[i]?=some y∧Agr atoms m v y (.mk Ae [bases[i]]))
  (h2:∀ i (hi:i<ins.length),∃ y,legal[i]?=some y∧Agr atoms m v y (.mk rF [dV roles ins[i].1,ins[i].2]))
  (h3:∀ x∈gl,Agr atoms m v x.2.2.2 (.mk jY [dV roles x.1,.mk (Bo x.2.1.toNat) []]))
  (h4:∀ x∈sl,Agr atoms m v x.2.2.2 (.mk mZ [dV roles x.1,x.2.2.1]))
  (h5:Agr atoms m v term (.mk dQ [])) :
  Pure Tryz.prog 23 [(ig gs roles bases ins ini next legal (gl.map aV) (sl.map aV) term hid),gD atoms rules,.list (m.map enI),.list (v.map D.bool)] [.bool true]:=by
 refine Pure.of_wp hT (nt:=_) (c:=_) Tryz.func23 rfl rfl rfl rfl (by kernel_rfl) ?_;intro w0 ok0 β0;repeat (refine gw rfl ?_;conv=>whnf)
 refine WP.loop (α:=Nat) (fun i=>⟨[(2,.d (.list (m.map enI))),(3,.d (.list (v.map D.bool))),(4,.d (.ref (ig gs roles bases ins ini next legal (gl.map aV) (sl.map aV) term hid).cells 0)),(5,.d (.ref (gD atoms rules).cells 0)),(9,.d (.int .i64 i))],[],[]⟩) (fun i=>i≤bases.length) (fun i=>bases.length-i) 0 [] [] ?_ ?_ ?_
 ·((conv=>whnf);repeat (first | exact ⟨⟩ | (refine ⟨by first | rfl | (simp;done) | (simp;omega),?_⟩;conv=>whnf)))
 ·exact Nat.zero_le _
 ·intro i hi;repeat (refine gw rfl ?_;conv=>whnf)
  rw [List.length_map];(split<;>rename_i hb<;>(try rw [hb])<;>(conv=>whnf))
  ·have hlt:i<bases.length:=(by simpa using hb);clear hb;obtain ⟨y,hy,hA⟩:=h1 i hlt;have hgt:=dB hlt;have hokt:=okb _ (List.getElem_mem hlt);generalize bases[i]=t at hA hgt hokt;have hH:=Tryz.D7 atoms rules m Ae [t] hl hok hm (by simp) (fun x hx=>by rw [List.mem_singleton.1 hx];exact hokt);have hat:=hA.at;generalize inM atoms m (.mk Ae [t])=b at hH hat;simp only [List.map_cons,List.map_nil,bQ] at hH;(repeat ((first | refine W2 hT hM [37] ?_ | refine gw rfl ?_);conv=>whnf));refine ⟨by omega,_,JB hy,rfl,?_⟩;(conv=>whnf);(repeat (refine gw rfl ?_;conv=>whnf));refine ⟨hA.1,_,hat,rfl,?_⟩;(conv=>whnf);(repeat (refine gw rfl ?_;conv=>whnf));refine ⟨by omega,_,hgt,rfl,?_⟩;(conv=>whnf);repeat (refine gw rfl ?_;conv=>whnf)
   iterate 1
    refine ⟨rfl,?_⟩;conv=>whnf
   (repeat (refine gw rfl ?_;conv=>whnf));refine .inl ⟨_,hH,.inl rfl,?_⟩;(conv=>whnf);(repeat (refine gw rfl ?_;conv=>whnf));rw [show (b==b)=true by simp];(conv=>whnf);(repeat (refine gw rfl ?_;conv=>whnf));refine ⟨by omega,?_⟩;(conv=>whnf);refine ⟨i+1,[],[],?_,by omega,by omega⟩;((conv=>whnf);repeat (first | exact ⟨⟩ | (refine ⟨by first | rfl | (simp;done) | (simp;omega),?_⟩;conv=>whnf)))
  ·have hie:i=bases.length:=(by simp at hb;omega);subst hie;clear hb;(repeat (refine gw rfl ?_;conv=>whnf));refine WP.loop (α:=Nat) (fun i=>⟨[(2,.d (.list (m.map enI))),(3,.d (.list (v.map D.bool))),(4,.d (.ref (ig gs roles bases ins ini next legal (gl.map aV) (sl.map aV) term hid).cells 0)),(5,.d (.ref (gD atoms rules).cells 0)),(10,.d (.int .i64 i))],[],[]⟩) (fun i=>i≤ins.length) (fun i=>ins.length-i) 0 [] [] ?_ ?_ ?_
   ·((conv=>whnf);repeat (first | exact ⟨⟩ | (refine ⟨by first | rfl | (simp;done) | (simp;omega),?_⟩;conv=>whnf)))
   ·exact Nat.zero_le _
   ·intro i hi;(repeat (refine gw rfl ?_;conv=>whnf));rw [List.length_map];(split<;>rename_i hb<;>(try rw [hb])<;>(conv=>whnf))
    ·have hlt:i<ins.length:=(by simpa using hb);clear hb;obtain ⟨y,hy,hA⟩:=h2 i hlt;have hgt:=Vd hlt;obtain ⟨hokt,hrl⟩:=oki _ (List.getElem_mem hlt);generalize ins[i]=x at hA hgt hokt hrl;obtain ⟨k,t⟩:=x;dsimp only at hA hgt hokt hrl;have hro:=dB hrl;have hokr:=okr _ (List.getElem_mem hrl);unfold dV at hA;rw [getD_at hrl] at hA;generalize roles[k]=r at hro hokr hA;have hH:=Tryz.D7 atoms rules m rF [r,t] hl hok hm (by simp) (fun x hx=>by rcases List.mem_cons.1 hx with rfl | hx;exact hokr;rw [List.mem_singleton.1 hx];exact hokt);have hat:=hA.at;generalize inM atoms m (.mk rF [r,t])=b at hH hat;simp only [List.map_cons,List.map_nil,bQ] at hH;(repeat ((first | refine W2 hT hM [73] ?_ | refine gw rfl ?_);conv=>whnf));refine ⟨by omega,_,JB hy,rfl,?_⟩;(conv=>whnf);(repeat (refine gw rfl ?_;conv=>whnf));refine ⟨hA.1,_,hat,rfl,?_⟩;(conv=>whnf);(repeat (refine gw rfl ?_;conv=>whnf));refine ⟨by omega,_,hgt,rfl,?_⟩;(conv=>whnf);(repeat (refine gw rfl ?_;conv=>whnf));refine ⟨by omega,_,hro,rfl,?_⟩;(conv=>whnf);(repeat (refine gw rfl ?_;conv=>whnf));refine ⟨by omega,_,hgt,rfl,?_⟩;(conv=>whnf);repeat (refine gw rfl ?_;conv=>whnf)
     iterate 2
      refine ⟨rfl,?_⟩;conv=>whnf
     (repeat (refine gw rfl ?_;conv=>whnf));refine .inl ⟨_,hH,.inl rfl,?_⟩;(conv=>whnf);(repeat (refine gw rfl ?_;conv=>whnf));rw [show (b==b)=true by simp];(conv=>whnf);(repeat (refine gw rfl ?_;conv=>whnf));refine ⟨by omega,?_⟩;(conv=>whnf);refine ⟨i+1,[],[],?_,by omega,by omega⟩;((conv=>whnf);repeat (first | exact ⟨⟩ | (refine ⟨by first | rfl | (simp;done) | (simp;omega),?_⟩;conv=>whnf)))
    ·have hie:i=ins.length:=(by simp at hb;omega);subst hie;clear hb;(repeat (refine gw rfl ?_;conv=>whnf));refine WP.loop (α:=Nat) (fun i=>⟨[(2,.d (.list (m.map enI))),(3,.d (.list (v.map D.bool))),(4,.d (.ref (ig gs roles bases ins ini next legal (gl.map aV) (sl.map aV) term hid).cells 0)),(5,.d (.ref (gD atoms rules).cells 0)),(11,.d (.int .i64 i))],[],[]⟩) (fun i=>i≤gl.length) (fun i=>gl.length-i) 0 [] [] ?_ ?_ ?_
     ·((conv=>whnf);repeat (first | exact ⟨⟩ | (refine ⟨by first | rfl | (simp;done) | (simp;omega),?_⟩;conv=>whnf)))
     ·exact Nat.zero_le _
     ·intro i hi;(repeat (refine gw rfl ?_;conv=>whnf));rw [List.length_map];(split<;>rename_i hb<;>(try rw [hb])<;>(conv=>whnf))
      ·have hlt:i<gl.length:=(by simpa using hb);clear hb;have hgt:=Hr hlt;have hA:=h3 _ (List.getElem_mem hlt);obtain ⟨hrl,hv0,hv1⟩:=okg _ (List.getElem_mem hlt);generalize gl[i]=x at hA hgt hrl hv0 hv1;obtain ⟨k,val,tm,y⟩:=x;dsimp only at hA hgt hrl hv0 hv1;obtain ⟨n,rfl⟩:∃ n:Nat,val=(n:Nat):=⟨val.toNat,by omega⟩
       rw [Int.toNat_natCast] at hA;have hro:=dB hrl;have hokr:=okr _ (List.getElem_mem hrl);unfold dV at hA;rw [getD_at hrl] at hA;generalize roles[k]=r at hro hokr hA;have hN:=Tryz.Xe n (by omega);have hH:=Tryz.D7 atoms rules m jY [r,.mk (Bo n) []] hl hok hm (by simp) (fun x hx=>by rcases List.mem_cons.1 hx with rfl | hx;exact hokr;rw [List.mem_singleton.1 hx];exact aW.2 ⟨Nat.zero_le _,fun z hz=>by cases hz⟩);have hat:=hA.at;generalize inM atoms m (.mk jY [r,.mk (Bo n) []])=b at hH hat;generalize Bo n=ns at hH hN;simp only [List.map_cons,List.map_nil,bQ] at hH;(repeat ((first | refine W2 hT hM [104] ?_ | refine gw rfl ?_);conv=>whnf));refine ⟨by omega,_,hgt,rfl,?_⟩;(conv=>whnf);(repeat ((first | refine W2 hT hM [104] ?_ | refine gw rfl ?_);conv=>whnf));refine ⟨hA.1,_,hat,rfl,?_⟩;(conv=>whnf);(repeat (refine gw rfl ?_;conv=>whnf));refine ⟨by omega,_,hro,rfl,?_⟩;(conv=>whnf);(repeat (refine gw rfl ?_;conv=>whnf));refine .inl ⟨_,hN,.inl rfl,?_⟩;(conv=>whnf);repeat (refine gw rfl ?_;conv=>whnf)
       iterate 2
        refine ⟨rfl,?_⟩;conv=>whnf
       (repeat (refine gw rfl ?_;conv=>whnf));refine .inl ⟨_,hH,.inl rfl,?_⟩;(conv=>whnf);(repeat (refine gw rfl ?_;conv=>whnf));rw [show (b==b)=true by simp];(conv=>whnf);(repeat (refine gw rfl ?_;conv=>whnf));refine ⟨by omega,?_⟩;(conv=>whnf);refine ⟨i+1,[],[],?_,by omega,by omega⟩;((conv=>whnf);repeat (first | exact ⟨⟩ | (refine ⟨by first | rfl | (simp;done) | (simp;omega),?_⟩;conv=>whnf)))
      ·have hie:i=gl.length:=(by simp at hb;omega);subst hie;clear hb;(repeat (refine gw rfl ?_;conv=>whnf));refine WP.loop (α:=Nat) (fun i=>⟨[(2,.d (.list (m.map enI))),(3,.d (.list (v.map D.bool))),(4,.d (.ref (ig gs roles bases ins ini next legal (gl.map aV) (sl.map aV) term hid).cells 0)),(5,.d (.ref (gD atoms rules).cells 0)),(13,.d (.int .i64 i))],[],[]⟩) (fun i=>i≤sl.length) (fun i=>sl.length-i) 0 [] [] ?_ ?_ ?_
       ·((conv=>whnf);repeat (first | exact ⟨⟩ | (refine ⟨by first | rfl | (simp;done) | (simp;omega),?_⟩;conv=>whnf)))
       ·exact Nat.zero_le _
       ·intro i hi;(repeat (refine gw rfl ?_;conv=>whnf));rw [List.length_map];(split<;>rename_i hb<;>(try rw [hb])<;>(conv=>whnf))
        ·have hlt:i<sl.length:=(by simpa using hb);clear hb;have hgt:=Hr hlt;have hA:=h4 _ (List.getElem_mem hlt);obtain ⟨hokt,hrl⟩:=oks _ (List.getElem_mem hlt);generalize sl[i]=x at hA hgt hrl hokt;obtain ⟨k,val,t,y⟩:=x;dsimp only at hA hgt hrl hokt;have hro:=dB hrl;have hokr:=okr _ (List.getElem_mem hrl);unfold dV at hA;rw [getD_at hrl] at hA;generalize roles[k]=r at hro hokr hA;have hH:=Tryz.D7 atoms rules m mZ [r,t] hl hok hm (by simp) (fun x hx=>by rcases List.mem_cons.1 hx with rfl | hx;exact hokr;rw [List.mem_singleton.1 hx];exact hokt);have hat:=hA.at;generalize inM atoms m (.mk mZ [r,t])=b at hH hat;simp only [List.map_cons,List.map_nil,bQ] at hH;(repeat ((first | refine W2 hT hM [134] ?_ | refine gw rfl ?_);conv=>whnf));refine ⟨by omega,_,hgt,rfl,?_⟩;(conv=>whnf);(repeat ((first | refine W2 hT hM [134] ?_ | refine gw rfl ?_);conv=>whnf));refine ⟨hA.1,_,hat,rfl,?_⟩;(conv=>whnf);(repeat (refine gw rfl ?_;conv=>whnf));refine ⟨by omega,_,hro,rfl,?_⟩;(conv=>whnf);repeat (refine gw rfl ?_;conv=>whnf)
         iterate 2
          refine ⟨rfl,?_⟩;conv=>whnf
         (repeat (refine gw rfl ?_;conv=>whnf));refine .inl ⟨_,hH,.inl rfl,?_⟩;(conv=>whnf);(repeat (refine gw rfl ?_;conv=>whnf));rw [show (b==b)=true by simp];(conv=>whnf);(repeat (refine gw rfl ?_;conv=>whnf));refine ⟨by omega,?_⟩;(conv=>whnf);refine ⟨i+1,[],[],?_,by omega,by omega⟩;((conv=>whnf);repeat (first | exact ⟨⟩ | (refine ⟨by first | rfl | (simp;done) | (simp;omega),?_⟩;conv=>whnf)))
        ·have hie:i=sl.length:=(by simp at hb;omega);subst hie;clear hb;(repeat (refine gw rfl ?_;conv=>whnf));have hH:=Tryz.D7 atoms rules m dQ [] hl hok hm (by simp) (fun x hx=>by cases hx);have hat:=h5.at;generalize inM atoms m (.mk dQ [])=b at hH hat;refine ⟨h5.1,_,hat,rfl,?_⟩;(conv=>whnf);(repeat (refine gw rfl ?_;conv=>whnf));refine .inl ⟨_,hH,.inl rfl,?_⟩;(conv=>whnf);(repeat (refine gw rfl ?_;conv=>whnf));rw [show (b==b)=true by simp]
end Go.Proofs.YtdonenoiehdahaaGreat
namespace Go.Proofs.YtdonenoiehdahaaGreat
open Go Go.Abs Go.Own
theorem Tryz.XL (atoms:List Tm) (rules:List Gr) (names:List Tm) (hid:Bool) (lv:Str→Nat) (hG:Pure Tryz.prog 9 [gD atoms rules,.list (names.map enT),.bool hid] [.int .i64 ((iT atoms.length rules (aQ (bg atoms.length (aA atoms.length rules)) atoms.length):Nat):Int),.int .i64 0])
  (hok:∀ x∈atoms,okT x) (hsh:∀ x∈atoms,shT x) (hv:aK atoms rules=true) (hR:aX names=true) (hgv:rules.any (aZ atoms)=false) (hn:atoms.length≤64) (hr:rules.length≤128) (hf:∀ r∈rules,r.2.1.length+r.2.2.length≤16) (hokn:∀ x∈names,okT x)
  (hlv:dK (nmS atoms) (dX atoms rules [])=some lv) (hsz:iT atoms.length rules (aQ (bg atoms.length (aA atoms.length rules)) atoms.length)≤16384) :
  ∃ (gs:List Gt) (ini next legal:List Int) (gl sl:List Ot) (term:Int),NT gs names (ak atoms) (aU atoms names) ini next legal gl sl term ∧
    Pure Tryz.prog 14 [gD atoms rules,.list (names.map enT),.bool hid] [ig gs names (ak atoms) (aU atoms names) ini next legal (gl.map aV) (sl.map aV) term hid,.int .i64 0] ∧
    ∀ (st inp:List Int),(∀ x∈st,0≤x∧x<((ak atoms).length:Nat))→st.Pairwise (·<·)→(∀ x∈inp,0≤x∧x<((aU atoms names).length:Nat))→inp.Pairwise (·<·) →
      ∃ m:List Int,m.length≤64∧Pure Tryz.prog 21 [gD atoms rules,.list ((gvF atoms names (ak atoms) (aU atoms names) st inp).map enI)] [.list (m.map enI),.int .i64 0] ∧
        (∀ i (hi:i<(ak atoms).length),∃ y,next[i]?=some y∧Agr atoms m (valsF st inp gs) y (.mk Ae [(ak atoms)[i]])) ∧
        (∀ i (hi:i<(aU atoms names).length),∃ y,legal[i]?=some y∧Agr atoms m (valsF st inp gs) y (.mk rF [dV names (aU atoms names)[i].1,(aU atoms names)[i].2])) ∧
        (∀ x∈gl,Agr atoms m (valsF st inp gs) x.2.2.2 (.mk jY [dV names x.1,.mk (Bo x.2.1.toNat) []])) ∧
        (∀ x∈sl,Agr atoms m (valsF st inp gs) x.2.2.2 (.mk mZ [dV names x.1,x.2.2.1])) ∧
        Agr atoms m (valsF st inp gs) term (.mk dQ []):=by
 have hin:=eP hv;have hfit:zJ rules:=fun r h=>by have:=hf r h;omega
 have hsr:=CB hin hn hlv;have hR2:1≤names.length∧names.length≤4:=by
  have:=hR;unfold aX at this;simp only [Bool.and_eq_true,decide_eq_true_eq] at this;exact this.1
 have hGr:=Tryz.MI atoms rules names hid _ hG hok hsh hv hn hr hf hokn (by omega) lv hlv hsr;unfold Xn at hGr;rw [Jc hR] at hGr;have hS14:=Tryz.KE atoms rules hok hv hn hr hf;unfold strD at hS14;rw [hlv] at hS14;dsimp only at hS14;rw [show (atoms.map fun t=>D.int .i64 (ofL t.name ((nmS atoms).map fun n=>(n,((lv n:Nat):Int)))))=(fF atoms lv).map enI from by unfold fF;rw [List.map_map];rfl] at hS14;have hN:=UR (names:=names) (G:=aQ (bg atoms.length (aA atoms.length rules)) atoms.length) (holdL (jF atoms.length (fF atoms lv) rules) (jF atoms.length (fF atoms lv) rules).length) hv hok hn hR hsz;refine ⟨_,_,_,_,_,_,_,hN,hGr,fun st inp h1 a1 h2 a2=>?_⟩;clear hGr;have hga:=XJ hv hR h1 a1 h2 a2;have hgr:=XI (atoms:=atoms) (st:=st) (inp:=inp) (names:=names) (bases:=ak atoms) (ins:=aU atoms names);have hgl:=DC (vg hga) hgr;obtain ⟨rk,hw,hrk⟩:=OB hin hn hlv hgr;have hRk:=Tryz.WY atoms rules (fF atoms lv) (gvF atoms names (ak atoms) (aU atoms names) st inp) hv hok hfit (YS hgr hga) (by omega) hin hn hr hf (by unfold fF;rw [List.length_map]) hsr hS14;rw [hrk] at hRk;have hrkl:rk.length≤64:=by rw [hw.len];exact hn
 have hM:=Tryz.Xp atoms rules _ rk hrkl hRk;obtain ⟨hp,hk⟩:=Xm hv hR hgv hlv h1 h2 hw;have hvr:=(Pz (names:=names) (G:=aQ (bg atoms.length (aA atoms.length rules)) atoms.length) (JI hin)).2;generalize csN atoms rules names (aQ (bg atoms.length (aA atoms.length rules)) atoms.length)=c at *;have agr:∀ nm args,Grd (.mk nm args)→Agr atoms (holdL rk rk.length) (valsF st inp c.1.1) (ofV atoms c.2 nm args) (.mk nm args):=fun nm args hu=>by
  have hr:=Qw (atoms:=atoms) hvr.1 (by omega) nm args;exact ⟨hr.1,by rw [oK];omega,Xa hv hu hw.len hp hk⟩
 have hgrd:=O8 hv;have pair:∀ {nm:Str} {r:Tm} {k:Nat} {t:Tm},(r,k)∈names.zipIdx→t∈fK nm (some r) atoms→dV names k=r∧Grd r∧Grd t:=fun {nm r k t} hp ht=>by
  obtain ⟨hk,e⟩:=List.getElem?_eq_some_iff.1 (List.mk_mem_zipIdx_iff_getElem?.1 hp);refine ⟨by unfold dV;rw [getD_at hk];exact e,e ▸ MJ hR hk,?_⟩;unfold fK at ht;obtain ⟨u,hu,e2⟩:=List.mem_filterMap.1 ht;obtain ⟨a,_,h4,_⟩:=xM e2;exact (hgrd u hu).arg (by rw [h4];simp)
 refine ⟨holdL rk rk.length,Nat.le_trans (uM _ _) hrkl,hM,fun i hi=>⟨ofV atoms c.2 Ae [(ak atoms)[i]],?_,?_⟩,fun i hi=>⟨ofV atoms c.2 rF [dV names (aU atoms names)[i].1,(aU atoms names)[i].2],?_,?_⟩,fun x hx=>?_,fun x hx=>?_,?_⟩
 ·unfold nextL;rw [List.getElem?_map,List.getElem?_eq_getElem hi];rfl
 ·obtain ⟨j,hj,e⟩:=II (atoms:=atoms) (p:=((ak atoms)[i],i)) (List.mk_mem_zipIdx_iff_getElem?.2 (List.getElem?_eq_getElem hi));refine agr _ _ (Ee (by decide) (by simp) fun t ht=>?_);rw [List.mem_singleton.1 ht];exact (hgrd _ (List.getElem_mem hj)).arg (by rw [e];simp [Tm.args])
 ·unfold jq;rw [List.getElem?_map,List.getElem?_eq_getElem hi];rfl
 ·obtain ⟨j,hj,e,_⟩:=yA hv hR (List.getElem_mem hi);refine agr _ _ (Ee (by decide) (by simp) fun t ht=>?_);exact (hgrd _ (List.getElem_mem hj)).arg (by rw [e];exact ht)
 ·unfold l9 at hx;obtain ⟨⟨r,k⟩,hp,hx⟩:=List.mem_flatMap.1 hx;unfold pO at hx;obtain ⟨t,ht,hx⟩:=List.mem_flatMap.1 hx;obtain ⟨g1,g2,g3,rfl⟩:=pR hx;obtain ⟨e,hgr',hgt⟩:=pair hp ht;dsimp only;rw [e];have et:Tm.mk (Bo (eu t.name).toNat) []=t:=Tm.ext (Xi g1 g3).symm (List.length_eq_zero_iff.1 g2).symm;rw [et]
  exact agr _ _ (Ee (by decide) (by simp) fun y hy=>by
   rcases List.mem_cons.1 hy with rfl | hy
   ·exact hgr'
   ·rw [List.mem_singleton.1 hy];exact hgt)
 ·unfold rD at hx;obtain ⟨⟨r,k⟩,hp,hx⟩:=List.mem_flatMap.1 hx;unfold yY at hx;obtain ⟨t,ht,rfl⟩:=List.mem_map.1 hx;obtain ⟨e,hgr',hgt⟩:=pair hp ht;unfold CQ;dsimp only;rw [e]
  exact agr _ _ (Ee (by decide) (by simp) fun y hy=>by
   rcases List.mem_cons.1 hy with rfl | hy
   ·exact hgr'
   ·rw [List.mem_singleton.1 hy];exact hgt)
 ·exact agr _ _ (Ee (by decide) (by simp) fun y hy=>by cases hy)
end Go.Proofs.YtdonenoiehdahaaGreat
namespace Go.Proofs.YtdonenoiehdahaaGreat
open Go Go.Abs Go.Own
attribute [local irreducible] WP
theorem Rj (b k:Nat):(∀ x∈jD b k,0≤x∧x<((k:Nat):Int))∧(jD b k).Pairwise (·<·):=by
 unfold jD;refine ⟨fun x hx=>?_,?_⟩
 ·obtain ⟨i,hi,rfl⟩:=List.mem_map.1 hx;have:=List.mem_range.1 (List.mem_filter.1 hi).1;omega
 ·rw [List.pairwise_map];exact (List.pairwise_lt_range.filter _).imp fun h=>by omega
theorem QL (O:List Int) (p:Int→Bool) (x:Int) {l:List Int} {k:Nat} (h:k<l.length):(O++((l.take (k+1)).filter p).map fun _=>x)=(O++((l.take k).filter p).map fun _=>x)++(match p l[k] with | true=>[x] | false=>[]):=by
 rw [List.take_succ_eq_append_getElem h,List.filter_append,List.map_append,List.append_assoc];congr 2;cases hp:p l[k] with
 | true=>rw [List.filter_cons_of_pos hp];rfl
 | false=>rw [List.filter_cons_of_neg (by rw [hp];simp)];rfl
theorem Vu (O:List Int) (p:Int→Bool) (x:Int) (l:List Int) (k:Nat):(O++((l.take k).filter p).map fun _=>x).length≤O.length+l.length:=by
 rw [List.length_append,List.length_map];have h1:=List.length_filter_le p (l.take k);have h2:(l.take k).length≤l.length:=by rw [List.length_take];omega
 omega
theorem Uj {names B:List Tm} {I:List In} {S J:List Int} (hS:S.length≤64) (hJ:J.length≤64) {l:List (Tm×Nat)} (i:Nat):((l.take i).flatMap (l7 names B I S J)).length≤i*128:=by
 have hrow:∀ p,(l7 names B I S J p).length≤128:=fun p=>by
  unfold l7;rw [List.length_append,List.length_map,List.length_map];have h1:=List.length_filter_le (gvT B p.1) S;have h2:=List.length_filter_le (gvI names I p.1) J;omega
 induction i generalizing l with
 | zero=>simp
 | succ i ih=>
   cases l with
   | nil=>simp
   | cons p l=>
     rw [List.take_succ_cons,List.flatMap_cons,List.length_append];have:=ih (l:=l);have:=hrow p;omega
theorem Zd {B:List Tm} {tn:Str} {ta:List Tm} {s:Int} (h:(tn==eY)=false):gvT B (.mk tn ta) s=false:=by
 unfold gvT;rw [show (Tm.mk tn ta).name=tn from rfl,h];rfl
theorem Ze {B:List Tm} {tn:Str} {ta:List Tm} {s:Int} (h:(((ta.length:Nat):Int)==1)=false):gvT B (.mk tn ta) s=false:=by
 unfold gvT;rw [show decide ((Tm.mk tn ta).args.length=1)=false from decide_eq_false (fun e=>by rw [show ta.length=1 from e] at h;cases h),Bool.and_false];rfl
theorem Zf {B:List Tm} {tn:Str} {x:Tm} {s:Int} (h:(tn==eY)=true) (hs:s.toNat<B.length):gvT B (.mk tn [x]) s=eqT x B[s.toNat]:=by
 unfold gvT;rw [show (Tm.mk tn [x]).name=tn from rfl,h,getD_at hs];rfl
theorem Zg {names:List Tm} {I:List In} {tn:Str} {ta:List Tm} {s:Int} (h:(tn==bC)=false):gvI names I (.mk tn ta) s=false:=by
 unfold gvI;rw [show (Tm.mk tn ta).name=tn from rfl,h];rfl
theorem Zh {names:List Tm} {I:List In} {tn:Str} {ta:List Tm} {s:Int} (h:(((ta.length:Nat):Int)==2)=false):gvI names I (.mk tn ta) s=false:=by
 unfold gvI;rw [show decide ((Tm.mk tn ta).args.length=2)=false from decide_eq_false (fun e=>by rw [show ta.length=2 from e] at h;cases h),Bool.and_false];rfl
theorem Zi {names:List Tm} {I:List In} {tn:Str} {a b:Tm} {s:Int} (h:(tn==bC)=true) (hs:s.toNat<I.length):gvI names I (.mk tn [a,b]) s=(eqT a (dV names I[s.toNat].1)&&eqT b I[s.toNat].2):=by
 unfold gvI;rw [show (Tm.mk tn [a,b]).name=tn from rfl,h,getD_at hs];rfl
theorem len1 {l:List Tm} (h:(((l.length:Nat):Int)==1)=true):∃ x,l=[x]:=by
 have h:=eq_of_beq h
 match l,h with
 | [x],_=>exact ⟨x,rfl⟩
 | [],h=>simp at h
 | _::_::_,h=>simp at h;omega
theorem len2 {l:List Tm} (h:(((l.length:Nat):Int)==2)=true):∃ a b,l=[a,b]:=by
 have h:=eq_of_beq h
 match l,h with
 | [a,b],_=>exact ⟨a,b,rfl⟩
 | [],h=>simp at h
 | [_],h=>simp at h
 | _::_::_::_,h=>simp at h;omega
theorem Zb (x:Tm):([x].map enT)[Int.toNat 0]?=some (tD x.name x.args):=by rw [← bQ];rfl
theorem Y9 (x y:Tm):([x,y].map enT)[Int.toNat 0]?=some (tD x.name x.args):=by rw [← bQ];rfl
theorem XE (x y:Tm):([x,y].map enT)[Int.toNat 1]?=some (tD y.name y.args):=by rw [← bQ];rfl
theorem Z4 {l:List Tm} {s:Int} (h:s.toNat<l.length):(l.map enT)[s.toNat]?=some (tD l[s.toNat].name l[s.toNat].args):=by rw [List.getElem?_map,List.getElem?_eq_getElem h,← bQ];rfl
theorem Z7 {l:List In} {s:Int} (h:s.toNat<l.length):(l.map iq)[s.toNat]?=some (.agg [.int .i64 (l[s.toNat].1:Nat),.str l[s.toNat].2.name,.list (l[s.toNat].2.args.map enT)]):=by rw [List.getElem?_map,List.getElem?_eq_getElem h];rfl
set_option maxRecDepth 10000 in
theorem Tryz.compileComputes (halive:Pure Tryz.prog 8 [] [.bool true]) (atoms:List Tm) (rules:List Gr) (names:List Tm) (sa sb:Nat) (hsa:sa<18446744073709551616) (hsb:sb<18446744073709551616) (hok:∀ x∈atoms,okT x) (hlen:atoms.length≤4000000000000000000) (hlr:rules.length≤4000000000000000000)
  (hw:∀ r∈rules,r.2.1.length≤4000000000000000000∧r.2.2.length≤4000000000000000000) (hokn:∀ x∈names,okT x) (hln:names.length≤4000000000000000000) :
  Pure Tryz.prog 5 [gD atoms rules,.list (names.map enT),.agg [.int .u64 sa,.int .u64 sb]] [.bool true]:=by
 refine Pure.of_wp hT (nt:=_) (c:=_) Tryz.func5 rfl rfl rfl rfl (by kernel_rfl) ?_;intro w0 ok0 β0;repeat (refine gw rfl ?_;conv=>whnf)
 refine .inl ⟨_,Tryz.WM atoms rules hok hlen hlr hw,.inl rfl,?_⟩;conv=>whnf
 cases hs:Own.qj atoms rules with
 | false=>
   (conv=>whnf);(repeat (refine gw rfl ?_;conv=>whnf));refine .inl ⟨_,halive,.inl rfl,?_⟩;(conv=>whnf);repeat (refine gw rfl ?_;conv=>whnf)
 | true=>
   obtain ⟨hn,hr,hf⟩:=small_facts hs;have hsh:∀ x∈atoms,shT x:=by
    unfold Own.qj at hs;simp only [Bool.and_eq_true] at hs;exact N9 (by decide) (by decide) hs.1.1
   (conv=>whnf);rw [List.length_map];by_cases h6:names.length≤6
   ·rw [show decide (((names.length:Nat):Int)>6)=false from decide_eq_false (by omega)];(conv=>whnf);refine .inl ⟨_,Tryz.KJ 20 (by decide) names hokn (by omega),.inl rfl,?_⟩;(conv=>whnf);cases hsn:Own.jk (20:Nat) names with
    | false=>
      (conv=>whnf);(repeat (refine gw rfl ?_;conv=>whnf));refine .inl ⟨_,halive,.inl rfl,?_⟩;(conv=>whnf);repeat (refine gw rfl ?_;conv=>whnf)
    | true=>
      have hf16:∀ r∈rules,r.2.1.length+r.2.2.length≤16:=fun r h=>by have:=hf r h;omega
      obtain ⟨e,x,y,hS1,hS2,hE⟩:∃ (e:Int) (x y:D),(aK atoms rules=true→Pure Tryz.prog 31 [gD atoms rules] [x,.int .i64 e])∧(aK atoms rules=true→Pure Tryz.prog 37 [gD atoms rules] [y,.int .i64 e])∧(e=0→∃ lv,dK (nmS atoms) (dX atoms rules [])=some lv):=by
       have h1:=fun hv=>Tryz.Qh atoms rules hok hv (by omega) (by omega) hf16
       have h2:=fun hv=>Tryz.KE atoms rules hok hv (by omega) (by omega) hf16
       unfold strD at h1 h2;cases hlv:dK (nmS atoms) (dX atoms rules []) with
       | none=>rw [hlv] at h1 h2;exact ⟨10,_,_,h1,h2,fun h=>by cases h⟩
       | some lv=>rw [hlv] at h1 h2;exact ⟨0,_,_,h1,h2,fun _=>⟨lv,rfl⟩⟩
      have hP:=Tryz.Vt atoms rules names false e x hok (by omega) (by omega) hf16 hokn (by omega) hS1;have hR:=Tryz.XP atoms rules names false e y hok (by omega) (by omega) hf16 (by omega) hS2;by_cases hz:(jK atoms rules names e).2=0
      ·obtain ⟨hv,hRo,hgv,he,hsz,hgve⟩:=Ti hz;obtain ⟨lv,hlv⟩:=hE he;rw [hgve] at hP hR;obtain ⟨gs,ini,next,legal,gl,sl,term,hN,hGr,hAll⟩:=Tryz.XL atoms rules names false lv hP hok hsh hv hRo hgv (by omega) (by omega) hf16 hokn hlv hsz;have hC:=Tryz.checkN false hN;generalize iT atoms.length rules (aQ (bg atoms.length (aA atoms.length rules)) atoms.length)=sz at *;(conv=>whnf);(repeat (refine gw rfl ?_;conv=>whnf));refine .inl ⟨_,hR,.inl rfl,?_⟩;(conv=>whnf);(repeat (refine gw rfl ?_;conv=>whnf));refine .inl ⟨_,hGr,.inl rfl,?_⟩;(conv=>whnf);(repeat (refine gw rfl ?_;conv=>whnf));refine .inl ⟨_,hC,.inl rfl,?_⟩;(conv=>whnf);(repeat (refine gw rfl ?_;conv=>whnf));rw [List.length_map];refine .inl ⟨_,Tryz.YA sa (ak atoms).length hsa (Nat.le_trans hN.b1 (by decide)),.inl rfl,?_⟩;(conv=>whnf);(repeat (refine gw rfl ?_;conv=>whnf));rw [List.length_map];refine .inl ⟨_,Tryz.YA sb (aU atoms names).length hsb (Nat.le_trans hN.i1 (by decide)),.inl rfl,?_⟩;(conv=>whnf);(repeat (refine gw rfl ?_;conv=>whnf));have hS0:=Rj sa (min (ak atoms).length 64);have hJ0:=Rj sb (min (aU atoms names).length 64);have hS:∀ x∈jD sa (min (ak atoms).length 64),0≤x∧x<(((ak atoms).length:Nat):Int):=fun x hx=>by have:=hS0.1 x hx;omega
       have hJ:∀ x∈jD sb (min (aU atoms names).length 64),0≤x∧x<(((aU atoms names).length:Nat):Int):=fun x hx=>by have:=hJ0.1 x hx;omega
       have hSl:(jD sa (min (ak atoms).length 64)).length≤64:=Nat.le_trans (zU _ _) (Nat.min_le_right _ _);have hJl:(jD sb (min (aU atoms names).length 64)).length≤64:=Nat.le_trans (zU _ _) (Nat.min_le_right _ _);obtain ⟨m,hm,hM,g1,g2,g3,g4,g5⟩:=hAll _ _ hS hS0.2 hJ hJ0.2;have hV:=Tryz.Kr gs names (ak atoms) (aU atoms names) ini next legal gl sl term false _ _ hN.len hN.gates hC (Nat.le_trans hSl (by decide)) (Nat.le_trans hJl (by decide)) hS hS0.2 hJ hJ0.2
       have hO:=Tryz.UD gs names (ak atoms) (aU atoms names) ini next legal gl sl term false atoms rules m _ (by omega) hok (by omega) (Nat.le_trans hN.b1 (by decide)) (Nat.le_trans hN.i1 (by decide)) (Nat.le_trans hN.g1 (by decide)) (Nat.le_trans hN.s1 (by decide)) hokn (fun x hx=>(hN.bs x hx).1) (fun x hx=>⟨(hN.is x hx).1,(hN.is x hx).2.2⟩)
        (fun x hx=>⟨(hN.gf x hx).1,(hN.gf x hx).2.1,(hN.gf x hx).2.2.1⟩) (fun x hx=>⟨(hN.sf x hx).2.2.1,(hN.sf x hx).1⟩) g1 g2 g3 g4 g5
       have okB:=fun x hx=>(hN.bs x hx).1
       have okI:=fun x hx=>And.intro (hN.is x hx).1 (hN.is x hx).2.2
       clear hS0 hJ0 g1 g2 g3 g4 g5 hAll hN hC hGr hR hP hsz hgve hgv;generalize jD sa (min (ak atoms).length 64)=S at *;generalize jD sb (min (aU atoms names).length 64)=J at *;generalize valsF S J gs=V at *;unfold gvF at hM;generalize ak atoms=B at *;generalize aU atoms names=I at *;refine WP.loop (α:=Nat) (fun i=>⟨[(3,.d (.ref (gD atoms rules).cells 0)),(9,.ptr 9 0),(10,.d (.list (S.map enI))),(11,.d (.list (J.map enI))),(12,.sl 300 1 0 ((atoms.zipIdx.take i).flatMap (l7 names B I S J)).length),(13,.d (.int .i64 i))],[((9,0),some (.cell (.d (.list (gs.map dN))))),((9,1),some (.cell (.d (.list (names.map enT))))),((9,2),some (.cell (.d (.list (B.map enT))))),((9,3),some (.cell (.d (.list (I.map iq))))),((9,4),some (.cell (.d (.list (ini.map enI))))),((9,5),some (.cell (.d (.list (next.map enI))))),((9,6),some (.cell (.d (.list (legal.map enI))))),((9,7),some (.cell (.d (.list (gl.map aV))))),((9,8),some (.cell (.d (.list (sl.map aV))))),((9,9),some (.cell (.d (.int .i64 term)))),((9,10),some (.cell (.d (.bool false)))),((300,0),some (.arr 1 (((atoms.zipIdx.take i).flatMap (l7 names B I S J)).map enI)))],[9,300]⟩) (fun i=>i≤atoms.length) (fun i=>atoms.length-i) 0 [(9,some 9),(300,none)] [] ?_ ?_ ?_
       ·((conv=>whnf);repeat (first | exact ⟨⟩ | (refine ⟨by first | rfl | (simp;done) | (simp;omega),?_⟩;conv=>whnf)))
       ·exact Nat.zero_le _
       ·intro i hi;have hos:=fun (h:i<atoms.length)=>show (atoms.zipIdx.take (i+1)).flatMap (l7 names B I S J)=(atoms.zipIdx.take i).flatMap (l7 names B I S J)++l7 names B I S J (atoms[i],i) from by rw [jy _ _ (by rw [List.length_zipIdx];exact h),List.getElem_zipIdx,Nat.zero_add]
        have hol:((atoms.zipIdx.take i).flatMap (l7 names B I S J)).length≤i*128:=Uj hSl hJl i;generalize hOe:(atoms.zipIdx.take i).flatMap (l7 names B I S J)=O at hos hol ⊢;(repeat (refine gw rfl ?_;conv=>whnf));rw [List.length_map];(split<;>rename_i hb<;>(try rw [hb])<;>(conv=>whnf))
        ·have hlt:i<atoms.length:=(by simpa using hb);clear hb;specialize hos hlt;have hgt:=dB hlt;have hokt:=hok _ (List.getElem_mem hlt);generalize atoms[i]=t at hos hgt hokt;obtain ⟨tn,ta⟩:=t;dsimp only [Tm.name,Tm.args] at hgt;(repeat (refine gw rfl ?_;conv=>whnf));refine ⟨by omega,_,hgt,rfl,?_⟩;(conv=>whnf);(repeat (refine gw rfl ?_;conv=>whnf));refine WP.loop (α:=Nat) (fun k=>⟨[(3,.d (.ref (gD atoms rules).cells 0)),(9,.ptr 9 0),(10,.d (.list (S.map enI))),(11,.d (.list (J.map enI))),(12,.sl 300 1 0 (O++((S.take k).filter (gvT B (.mk tn ta))).map fun _=>((i:Nat):Int)).length),(13,.d (.int .i64 i)),(14,.ptr 14 0),(15,.d (.int .i64 k))],[((9,0),some (.cell (.d (.list (gs.map dN))))),((9,1),some (.cell (.d (.list (names.map enT))))),((9,2),some (.cell (.d (.list (B.map enT))))),((9,3),some (.cell (.d (.list (I.map iq))))),((9,4),some (.cell (.d (.list (ini.map enI))))),((9,5),some (.cell (.d (.list (next.map enI))))),((9,6),some (.cell (.d (.list (legal.map enI))))),((9,7),some (.cell (.d (.list (gl.map aV))))),((9,8),some (.cell (.d (.list (sl.map aV))))),((9,9),some (.cell (.d (.int .i64 term)))),((9,10),some (.cell (.d (.bool false)))),((300,0),some (.arr 1 ((O++((S.take k).filter (gvT B (.mk tn ta))).map fun _=>((i:Nat):Int)).map enI))),((14,0),some (.cell (.d (.str tn)))),((14,1),some (.cell (.d (.list (ta.map enT)))))],[9,300,14]⟩) (fun k=>k≤S.length) (fun k=>S.length-k) 0 [(9,some 9),(300,some 300),(14,some 14)] [] ?_ ?_ ?_
         ·rw [List.take_zero,List.filter_nil,List.map_nil,List.append_nil];((conv=>whnf);repeat (first | exact ⟨⟩ | (refine ⟨by first | rfl | (simp;done) | (simp;omega),?_⟩;conv=>whnf)))
         ·exact Nat.zero_le _
         ·intro k hk;have hxs:=fun (h:k<S.length)=>QL O (gvT B (.mk tn ta)) ((i:Nat):Int) (l:=S) h
          have hxl:=Vu O (gvT B (.mk tn ta)) ((i:Nat):Int) S k;generalize hXe:(O++((S.take k).filter (gvT B (.mk tn ta))).map fun _=>((i:Nat):Int))=X at hxs hxl ⊢;(repeat (refine gw rfl ?_;conv=>whnf));rw [List.length_map];(split<;>rename_i hb<;>(try rw [hb])<;>(conv=>whnf))
          ·have hlk:k<S.length:=(by simpa using hb);clear hb;specialize hxs hlk;have hgk:=qN hlk;have hsr:=hS _ (List.getElem_mem hlk);generalize S[k]=s at hxs hgk hsr;(repeat (refine gw rfl ?_;conv=>whnf));rw [show (tn==(⟨#[116,114,117,101]⟩:ByteArray).data.toList)=(tn==eY) from rfl];cases hc1:tn==eY with
           | false=>
             have hgs:gvT B (.mk tn ta) s=false:=Zd hc1;rw [hgs] at hxs;(conv=>whnf);(repeat (refine gw rfl ?_;conv=>whnf));refine ⟨by omega,?_⟩;(conv=>whnf);refine ⟨k+1,[(9,some 9),(300,some 300),(14,some 14)],[],?_,by omega,by omega⟩;rw [hxs,List.append_nil];((conv=>whnf);repeat (first | exact ⟨⟩ | (refine ⟨by first | rfl | (simp;done) | (simp;omega),?_⟩;conv=>whnf)))
           | true=>
             (conv=>whnf);(repeat (refine gw rfl ?_;conv=>whnf));rw [List.length_map];cases hc2:(((ta.length:Nat):Int)==1) with
             | false=>
               have hgs:gvT B (.mk tn ta) s=false:=Ze hc2;rw [hgs] at hxs;(conv=>whnf);(repeat (refine gw rfl ?_;conv=>whnf));refine ⟨by omega,?_⟩;(conv=>whnf);refine ⟨k+1,[(9,some 9),(300,some 300),(14,some 14)],[],?_,by omega,by omega⟩;rw [hxs,List.append_nil];((conv=>whnf);repeat (first | exact ⟨⟩ | (refine ⟨by first | rfl | (simp;done) | (simp;omega),?_⟩;conv=>whnf)))
             | true=>
               obtain ⟨x,rfl⟩:=len1 hc2;have hsl:s.toNat<B.length:=(by omega);have hgs:=Zf (x:=x) hc1 hsl;have hbt:=Z4 hsl;have hobt:=okB _ (List.getElem_mem hsl);have hox:=(aW.1 hokt).2 x (by simp [Tm.args]);generalize B[s.toNat]=b at hgs hbt hobt;have hE:=Tryz.I7 x b hox hobt;(conv=>whnf);(repeat (refine gw rfl ?_;conv=>whnf));refine ⟨by decide,_,Zb x,rfl,?_⟩;(conv=>whnf);(repeat (refine gw rfl ?_;conv=>whnf));refine ⟨by omega,_,hgk,rfl,?_⟩;(conv=>whnf);(repeat (refine gw rfl ?_;conv=>whnf));refine ⟨hsr.1,_,hbt,rfl,?_⟩;(conv=>whnf);(repeat (refine gw rfl ?_;conv=>whnf));refine .inl ⟨_,hE,.inl rfl,?_⟩;(conv=>whnf);(repeat (refine gw rfl ?_;conv=>whnf));cases hd:eqT x b with
               | false=>
                 rw [hd] at hgs;rw [hgs] at hxs;(conv=>whnf);(repeat (refine gw rfl ?_;conv=>whnf));refine ⟨by omega,?_⟩;(conv=>whnf);refine ⟨k+1,[(9,some 9),(300,some 300),(14,some 14)],[],?_,by omega,by omega⟩;rw [hxs,List.append_nil];((conv=>whnf);repeat (first | exact ⟨⟩ | (refine ⟨by first | rfl | (simp;done) | (simp;omega),?_⟩;conv=>whnf)))
               | true=>
                 rw [hd] at hgs;rw [hgs] at hxs;(conv=>whnf);repeat (refine gw rfl ?_;conv=>whnf)
                 (refine ⟨rfl,?_⟩;(conv=>whnf);refine ⟨_,(congrArg (List.take _) List.drop_zero).trans (List.take_of_length_le (by first | (simp;done) | (simp;omega))),by first | (simp;done) | (simp;omega),?_⟩;(conv=>whnf);refine ⟨_,rfl,Nat.le_refl _,?_⟩;(conv=>whnf);refine ⟨by show (_+1)*8≤_;first | (simp;done) | (simp;omega),?_⟩;(conv=>whnf))
                 (repeat (refine gw rfl ?_;conv=>whnf));refine ⟨by omega,?_⟩;(conv=>whnf);refine ⟨k+1,[(9,some 9),(300,some 115),(14,some 14)],[],?_,by omega,by omega⟩;rw [hxs,List.map_append,List.map_singleton,List.length_append,List.length_singleton];((conv=>whnf);repeat (first | exact ⟨⟩ | (refine ⟨by first | rfl | (simp;done) | (simp;omega),?_⟩;conv=>whnf)))
          ·have hke:k=S.length:=(by simp at hb;omega);subst hke;clear hb hxs;rw [List.take_length] at hXe;(repeat (refine gw rfl ?_;conv=>whnf));refine WP.loop (α:=Nat) (fun k=>⟨[(3,.d (.ref (gD atoms rules).cells 0)),(9,.ptr 9 0),(10,.d (.list (S.map enI))),(11,.d (.list (J.map enI))),(12,.sl 300 1 0 (X++((J.take k).filter (gvI names I (.mk tn ta))).map fun _=>((i:Nat):Int)).length),(13,.d (.int .i64 i)),(14,.ptr 14 0),(16,.d (.int .i64 k))],[((9,0),some (.cell (.d (.list (gs.map dN))))),((9,1),some (.cell (.d (.list (names.map enT))))),((9,2),some (.cell (.d (.list (B.map enT))))),((9,3),some (.cell (.d (.list (I.map iq))))),((9,4),some (.cell (.d (.list (ini.map enI))))),((9,5),some (.cell (.d (.list (next.map enI))))),((9,6),some (.cell (.d (.list (legal.map enI))))),((9,7),some (.cell (.d (.list (gl.map aV))))),((9,8),some (.cell (.d (.list (sl.map aV))))),((9,9),some (.cell (.d (.int .i64 term)))),((9,10),some (.cell (.d (.bool false)))),((300,0),some (.arr 1 ((X++((J.take k).filter (gvI names I (.mk tn ta))).map fun _=>((i:Nat):Int)).map enI))),((14,0),some (.cell (.d (.str tn)))),((14,1),some (.cell (.d (.list (ta.map enT)))))],[9,300,14]⟩) (fun k=>k≤J.length) (fun k=>J.length-k) 0 [(9,some 9),(300,some 300),(14,some 14)] [] ?_ ?_ ?_
           ·rw [List.take_zero,List.filter_nil,List.map_nil,List.append_nil];((conv=>whnf);repeat (first | exact ⟨⟩ | (refine ⟨by first | rfl | (simp;done) | (simp;omega),?_⟩;conv=>whnf)))
           ·exact Nat.zero_le _
           ·intro k hk;have hxs:=fun (h:k<J.length)=>QL X (gvI names I (.mk tn ta)) ((i:Nat):Int) (l:=J) h
            have hyl:=Vu X (gvI names I (.mk tn ta)) ((i:Nat):Int) J k;generalize hYe:(X++((J.take k).filter (gvI names I (.mk tn ta))).map fun _=>((i:Nat):Int))=Y at hxs hyl ⊢;(repeat (refine gw rfl ?_;conv=>whnf));rw [List.length_map];(split<;>rename_i hb<;>(try rw [hb])<;>(conv=>whnf))
            ·have hlk:k<J.length:=(by simpa using hb);clear hb;specialize hxs hlk;have hgk:=qN hlk;have hsr:=hJ _ (List.getElem_mem hlk);generalize J[k]=s at hxs hgk hsr;have hsl:s.toNat<I.length:=(by omega);have hgA:=fun (a b:Tm) (h:(tn==bC)=true)=>Zi (names:=names) (a:=a) (b:=b) h hsl
             have hit:=Z7 hsl;obtain ⟨hom,hrl⟩:=okI _ (List.getElem_mem hsl);generalize I[s.toNat]=x at hgA hit hom hrl;obtain ⟨rk,mv⟩:=x;dsimp only at hgA hit hom hrl;have hrt:=dB hrl;have hor:=hokn _ (List.getElem_mem hrl);have hgB:=fun (a b:Tm) (h:(tn==bC)=true)=>show gvI names I (.mk tn [a,b]) s=(eqT a names[rk]&&eqT b mv) from by rw [hgA a b h];unfold dV;rw [getD_at hrl]
             clear hgA;generalize names[rk]=r at hgB hrt hor;(repeat (refine gw rfl ?_;conv=>whnf));refine ⟨by omega,_,hgk,rfl,?_⟩;(conv=>whnf);(repeat (refine gw rfl ?_;conv=>whnf));refine ⟨hsr.1,_,hit,rfl,?_⟩;(conv=>whnf);(repeat (refine gw rfl ?_;conv=>whnf));rw [show (tn==(⟨#[100,111,101,115]⟩:ByteArray).data.toList)=(tn==bC) from rfl];cases hc1:tn==bC with
             | false=>
               have hgs:gvI names I (.mk tn ta) s=false:=Zg hc1;rw [hgs] at hxs;(conv=>whnf);(repeat (refine gw rfl ?_;conv=>whnf));refine ⟨by omega,?_⟩;(conv=>whnf);refine ⟨k+1,[(9,some 9),(300,some 300),(14,some 14)],[],?_,by omega,by omega⟩;rw [hxs,List.append_nil];((conv=>whnf);repeat (first | exact ⟨⟩ | (refine ⟨by first | rfl | (simp;done) | (simp;omega),?_⟩;conv=>whnf)))
             | true=>
               (conv=>whnf);(repeat (refine gw rfl ?_;conv=>whnf));rw [List.length_map];cases hc2:(((ta.length:Nat):Int)==2) with
               | false=>
                 have hgs:gvI names I (.mk tn ta) s=false:=Zh hc2;rw [hgs] at hxs;(conv=>whnf);(repeat (refine gw rfl ?_;conv=>whnf));refine ⟨by omega,?_⟩;(conv=>whnf);refine ⟨k+1,[(9,some 9),(300,some 300),(14,some 14)],[],?_,by omega,by omega⟩;rw [hxs,List.append_nil];((conv=>whnf);repeat (first | exact ⟨⟩ | (refine ⟨by first | rfl | (simp;done) | (simp;omega),?_⟩;conv=>whnf)))
               | true=>
                 obtain ⟨a,b,rfl⟩:=len2 hc2;have hgs:=hgB a b hc1;have hoa:=(aW.1 hokt).2 a (by simp [Tm.args]);have hob:=(aW.1 hokt).2 b (by simp [Tm.args]);have hE1:=Tryz.I7 a r hoa hor;have hE2:=Tryz.I7 b mv hob hom;(conv=>whnf);(repeat (refine gw rfl ?_;conv=>whnf));refine ⟨by decide,_,Y9 a b,rfl,?_⟩;(conv=>whnf);(repeat (refine gw rfl ?_;conv=>whnf));refine ⟨by omega,_,hrt,rfl,?_⟩;(conv=>whnf);(repeat (refine gw rfl ?_;conv=>whnf));refine .inl ⟨_,hE1,.inl rfl,?_⟩;(conv=>whnf);(repeat (refine gw rfl ?_;conv=>whnf));cases hd:eqT a r with
                 | false=>
                   rw [hd,Bool.false_and] at hgs;rw [hgs] at hxs;(conv=>whnf);(repeat (refine gw rfl ?_;conv=>whnf));refine ⟨by omega,?_⟩;(conv=>whnf);refine ⟨k+1,[(9,some 9),(300,some 300),(14,some 14)],[],?_,by omega,by omega⟩;rw [hxs,List.append_nil];((conv=>whnf);repeat (first | exact ⟨⟩ | (refine ⟨by first | rfl | (simp;done) | (simp;omega),?_⟩;conv=>whnf)))
                 | true=>
                   rw [hd,Bool.true_and] at hgs;(conv=>whnf);(repeat (refine gw rfl ?_;conv=>whnf));refine ⟨by decide,_,XE a b,rfl,?_⟩;(conv=>whnf);(repeat (refine gw rfl ?_;conv=>whnf));refine .inl ⟨_,hE2,.inl rfl,?_⟩;(conv=>whnf);(repeat (refine gw rfl ?_;conv=>whnf));cases hd2:eqT b mv with
                   | false=>
                     rw [hd2] at hgs;rw [hgs] at hxs;(conv=>whnf);(repeat (refine gw rfl ?_;conv=>whnf));refine ⟨by omega,?_⟩;(conv=>whnf);refine ⟨k+1,[(9,some 9),(300,some 300),(14,some 14)],[],?_,by omega,by omega⟩;rw [hxs,List.append_nil];((conv=>whnf);repeat (first | exact ⟨⟩ | (refine ⟨by first | rfl | (simp;done) | (simp;omega),?_⟩;conv=>whnf)))
                   | true=>
                     rw [hd2] at hgs;rw [hgs] at hxs;(conv=>whnf);repeat (refine gw rfl ?_;conv=>whnf)
                     (refine ⟨rfl,?_⟩;(conv=>whnf);refine ⟨_,(congrArg (List.take _) List.drop_zero).trans (List.take_of_length_le (by first | (simp;done) | (simp;omega))),by first | (simp;done) | (simp;omega),?_⟩;(conv=>whnf);refine ⟨_,rfl,Nat.le_refl _,?_⟩;(conv=>whnf);refine ⟨by show (_+1)*8≤_;first | (simp;done) | (simp;omega),?_⟩;(conv=>whnf))
                     (repeat (refine gw rfl ?_;conv=>whnf));refine ⟨by omega,?_⟩;(conv=>whnf);refine ⟨k+1,[(9,some 9),(300,some 164),(14,some 14)],[],?_,by omega,by omega⟩;rw [hxs,List.map_append,List.map_singleton,List.length_append,List.length_singleton];((conv=>whnf);repeat (first | exact ⟨⟩ | (refine ⟨by first | rfl | (simp;done) | (simp;omega),?_⟩;conv=>whnf)))
            ·have hke:k=J.length:=(by simp at hb;omega);subst hke;clear hb hxs;rw [List.take_length] at hYe;(repeat (refine gw rfl ?_;conv=>whnf));refine ⟨by omega,?_⟩;(conv=>whnf);refine ⟨i+1,[(9,some 9),(300,some 300)],[],?_,by omega,by omega⟩;rw [hos,show O++l7 names B I S J (.mk tn ta,i)=Y from by rw [← hYe,← hXe,List.append_assoc];rfl];((conv=>whnf);repeat (first | exact ⟨⟩ | (refine ⟨by first | rfl | (simp;done) | (simp;omega),?_⟩;conv=>whnf)))
        ·have hie:i=atoms.length:=(by simp at hb;omega);subst hie;clear hb hos;rw [List.take_of_length_le (by rw [List.length_zipIdx];exact Nat.le_refl _)] at hOe;rw [hOe] at hM;refine WP.weak (l':=⟨[(3,.d (.ref (gD atoms rules).cells 0)),(9,.ptr 9 0),(10,.d (.list (S.map enI))),(11,.d (.list (J.map enI))),(12,.d (.list (O.map enI)))],[((9,0),some (.cell (.d (.list (gs.map dN))))),((9,1),some (.cell (.d (.list (names.map enT))))),((9,2),some (.cell (.d (.list (B.map enT))))),((9,3),some (.cell (.d (.list (I.map iq))))),((9,4),some (.cell (.d (.list (ini.map enI))))),((9,5),some (.cell (.d (.list (next.map enI))))),((9,6),some (.cell (.d (.list (legal.map enI))))),((9,7),some (.cell (.d (.list (gl.map aV))))),((9,8),some (.cell (.d (.list (sl.map aV))))),((9,9),some (.cell (.d (.int .i64 term)))),((9,10),some (.cell (.d (.bool false))))],[9]⟩) [(9,some 9)] [300] ?_ ?_
         ·((conv=>whnf);repeat (first | exact ⟨⟩ | (refine ⟨by first | rfl | (simp;done) | (simp;omega),?_⟩;conv=>whnf)));refine ⟨O.map enI,by rw [List.drop_zero];exact List.take_of_length_le (by simp),by simp,rfl,?_⟩;((conv=>whnf);repeat (first | exact ⟨⟩ | (refine ⟨by first | rfl | (simp;done) | (simp;omega),?_⟩;conv=>whnf)))
         (repeat (refine gw rfl ?_;conv=>whnf));refine .inl ⟨_,hM,.inl rfl,?_⟩;(conv=>whnf);(repeat (refine gw rfl ?_;conv=>whnf));refine .inl ⟨_,hV,.inl rfl,?_⟩;(conv=>whnf);(repeat (refine gw rfl ?_;conv=>whnf));refine .inl ⟨_,halive,.inl rfl,?_⟩;(conv=>whnf);(repeat (refine gw rfl ?_;conv=>whnf));refine .inl ⟨_,hO,.inl rfl,?_⟩;(conv=>whnf);repeat (refine gw rfl ?_;conv=>whnf)
      ·generalize jK atoms rules names e=gv at *;(conv=>whnf);(repeat (refine gw rfl ?_;conv=>whnf));refine .inl ⟨_,hR,.inl rfl,?_⟩;(conv=>whnf);(repeat (refine gw rfl ?_;conv=>whnf));rw [show (gv.2 != 0)=true from bne_iff_ne.2 hz];(conv=>whnf);(repeat (refine gw rfl ?_;conv=>whnf));refine .inl ⟨_,halive,.inl rfl,?_⟩;(conv=>whnf);repeat (refine gw rfl ?_;conv=>whnf)
   ·rw [show decide (((names.length:Nat):Int)>6)=true from decide_eq_true (by omega)];(conv=>whnf);(repeat (refine gw rfl ?_;conv=>whnf));refine .inl ⟨_,halive,.inl rfl,?_⟩;(conv=>whnf);repeat (refine gw rfl ?_;conv=>whnf)
end Go.Proofs.YtdonenoiehdahaaGreat
namespace Go.Proofs.YtdonenoiehdahaaGreat
open Go Go.RowKit Go.ChangeShapes Go.WideShapes
theorem Wp {a:Addr} (h:a.spot=none) (n:Nat):a.add n=⟨a.block,a.off+n,none⟩:=by
 obtain ⟨b,o,s⟩:=a;have hs:s=none:=h;subst hs;exact Addr.add_lit _ _ _
theorem RI {w:World} {a:Addr} {v:Value} (h:w.cell? (a.add 0)=some v):a.spot=none∧a.block<w.heap.size:=by
 have e:a.add 0=a:=by simp [Addr.add]
 rw [e] at h;unfold World.cell? at h;cases hh:w.heap[a.block]? with
 | none=>rw [hh] at h;cases h
 | some ob=>
   rw [hh] at h;refine ⟨?_,(Array.getElem?_eq_some_iff.1 hh).1⟩;cases ob with
   | cells c t f=>
     cases hs:a.spot with
     | none=>rfl
     | some _=>simp [hs] at h
   | _=>cases h
theorem Jg {W:World} {a:Addr} {len cap sz:Nat} {xs:List Abs.D} (hxl:xs.length=len) (hl:len≤cap) (hm:cap≤maxLen) (hsz:0<sz) (h0:0<cap→∃ v,W.cell? (a.add 0)=some v)
  (hx:∀ (i:Nat) x,xs[i]?=some x→(Abs.D.cells x).length=sz∧∀ (j:Nat) c,(Abs.D.cells x)[j]?=some c→∃ u,W.cell? (a.add (i*sz+j))=some u∧u.oneCell'=true∧Abs.D.one c=true∧Abs.RdD (fun b=>b<W.heap.size) W u c) :
  Abs.RdD (fun b=>b<W.heap.size) W (.slice (some a) len cap) (.list xs):=by
 subst hxl;rcases Nat.eq_zero_or_pos cap with hz | hz
 ·subst hz;have:xs=[]:=List.length_eq_zero_iff.1 (by omega);subst this;exact .lC _
 ·obtain ⟨v,hv⟩:=h0 hz;obtain ⟨hs,hb⟩:=RI hv;have hu:∀ (i:Nat) x (j:Nat) c,xs[i]?=some x→(Abs.D.cells x)[j]?=some c→∃ u,W.cell? ⟨a.block,a.off+(i*sz+j),none⟩=some u∧u.oneCell'=true∧Abs.D.one c=true∧Abs.RdD (fun b=>b<W.heap.size) W u c:=fun i x j c h hc=>by
   obtain ⟨_,h2⟩:=hx i x h;obtain ⟨u,h3,h4⟩:=h2 j c hc;rw [Wp hs] at h3;exact ⟨u,h3,h4⟩
  refine .lst a cap sz xs (fun i j=>(W.cell? ⟨a.block,a.off+(i*sz+j),none⟩).getD undef) hb hs hl hm hsz (fun i x h=>(hx i x h).1) (fun i x j c h hc=>?_) (fun i x j c h hc=>?_)
  ·obtain ⟨u,h1,h2,h3,_⟩:=hu i x j c h hc;rw [h1];exact ⟨rfl,h2,h3⟩
  ·obtain ⟨u,h1,_,_,h4⟩:=hu i x j c h hc;rw [h1];exact h4
section
open Go.Abs Go.Own
variable {H:Type} {enc:TypeId×Value→H} {W:World} {held:Bool}
theorem YJ {ok:Nat→Prop} {W:World} {s:ByteArray} (h:s.size≤maxLen):RdD ok W (.string s) (.str s.data.toList):=by
 have:(Value.string s) = .string ⟨s.data.toList.toArray⟩:=by simp
 rw [this];exact .str _ (by simpa using h)
def ZG (W:World) (t:Tm) (v0 v1:Value):Prop:=v0.oneCell'=true∧v1.oneCell'=true∧RdD (fun b=>b<W.heap.size) W v0 (.str t.name)∧RdD (fun b=>b<W.heap.size) W v1 (.list (t.args.map enT))
set_option maxRecDepth 100000 in
theorem Oz {n:Nat} {cs:List Value} {x:DataW H×List MemPlace} (h:DataW.trod enc Tryz.prog W 0 (fun _=>true) held n 22 cs=some x)
  (IH:∀ (n:Nat) (cs:List Value) (y:DataW H×List MemPlace),SizeOf.sizeOf y.1<SizeOf.sizeOf x.1→DataW.trod enc Tryz.prog W 0 (fun _=>true) held n 52 cs=some y→∃ (t:Tm) (v0 v1:Value),cs=[v0,v1]∧ZG W t v0 v1∧okT t) :
  ∃ (v:Value) (l:List Tm),cs=[v]∧v.oneCell'=true∧RdD (fun b=>b<W.heap.size) W v (.list (l.map enT))∧(∀ t∈l,okT t)∧l.length≤maxLen∧(l=[]∨∃ ds sp,x.1 = .slice ds sp∧l.length=ds.length):=by
 have k2:Tryz.prog.cellsOf 52=2:=by kernel_rfl
 rcases Deep.open_slice Tryz.underlying22 h with ⟨rfl,rfl⟩ | ⟨a,len,cap,m,n',DD,Pl,rfl,_,hl,hm,hmm,hx,hel⟩
 ·exact ⟨_,[],rfl,rfl,.lC _,(fun _ h=>by cases h),by simp,.inl rfl⟩
 simp only [if_true] at hmm;subst hmm;rw [k2] at hel
 haveI:Inhabited Tm:=⟨.mk [] []⟩
 obtain ⟨y,hy⟩:=Deep.choose_lt (α:=Tm) (n:=len) (p:=fun i t=>(∃ v0 v1,W.cell? (a.add (i*2+0))=some v0∧W.cell? (a.add (i*2+1))=some v1∧ZG W t v0 v1)∧okT t) (fun i hi=>by
  obtain ⟨cs',h1,h2⟩:=hel i (by omega)
  obtain ⟨t,v0,v1,rfl,ht,hok⟩:=IH _ _ _ (by
   rw [hx];have hmem:DD i∈(List.range len).map DD:=List.mem_map.2 ⟨i,List.mem_range.2 hi,rfl⟩;have:=List.sizeOf_lt_of_mem hmem;simp only [DataW.slice.sizeOf_spec]
   omega) h2
  obtain ⟨_,_,h3⟩:=World.cells?_some h1;have e0:=h3 0 (by omega);have e1:=h3 1 (by omega);rw [Deep.add_add] at e0 e1
  exact ⟨t,⟨v0,v1,by simpa using e0,by simpa using e1,ht⟩,hok⟩)
 refine ⟨_,(List.range len).map y,rfl,rfl,?_,fun t ht=>?_,by simp;omega,.inr ⟨_,_,congrArg Prod.fst hx,by simp⟩⟩
 ·refine Jg (sz:=2) (by simp) hl hm (by decide) (fun hc=>?_) fun i x hi=>?_
  ·obtain ⟨cs',h1,_⟩:=hel 0 hc;obtain ⟨_,hlen,h3⟩:=World.cells?_some h1;have:=h3 0 (by omega);rw [Deep.add_add,Nat.zero_mul] at this;rw [this];exact ⟨_,List.getElem?_eq_getElem (by omega)⟩
  ·simp only [List.map_map,List.getElem?_map,Option.map_eq_some_iff] at hi;obtain ⟨r,hri,rfl⟩:=hi;have hi:i<len:=(by have:=(List.getElem?_eq_some_iff.1 hri).1;simpa using this);obtain rfl:r=i:=by rw [List.getElem?_range hi] at hri;exact (Option.some.inj hri).symm
   obtain ⟨⟨v0,v1,c0,c1,o0,o1,r0,r1⟩,_⟩:=hy r hi;rw [show (enT ∘ y) r=tD (y r).name (y r).args from bQ _];refine ⟨rfl,fun j c hc=>?_⟩;have hc:[D.str (y r).name,D.list ((y r).args.map enT)][j]?=some c:=hc
   match j,hc with
   | 0,hc=>obtain rfl:=Option.some.inj hc;exact ⟨v0,c0,o0,rfl,r0⟩
   | 1,hc=>obtain rfl:=Option.some.inj hc;exact ⟨v1,c1,o1,rfl,r1⟩
   | j+2,hc=>simp at hc
 ·obtain ⟨r,hr,rfl⟩:=List.mem_map.1 ht;exact (hy r (List.mem_range.1 hr)).2
set_option maxRecDepth 100000 in
theorem Um:∀ (N n:Nat) (cs:List Value) (x:DataW H×List MemPlace),SizeOf.sizeOf x.1<N→DataW.trod enc Tryz.prog W 0 (fun _=>true) held n 52 cs=some x→∃ (t:Tm) (v0 v1:Value),cs=[v0,v1]∧ZG W t v0 v1∧okT t
 | 0,_,_,_,hN,_=>by omega
 | N+1,n,cs,x,hN,h=>by
   have k1:Tryz.prog.cellsOf 9=1:=(by kernel_rfl);have k1':Tryz.prog.cellsOf 22=1:=(by kernel_rfl);have k2:Tryz.prog.cellsOf 52=2:=(by kernel_rfl);obtain ⟨y0,y1,m,hx,hl,h0,h1⟩:=trod_struct2 Tryz.underlying52 h;rw [k2] at hl
   match cs,hl with
   | [c0,c1],_=>
     simp only [k1,k1',List.drop,List.take] at h0 h1;obtain ⟨s,e0,_,hs⟩:=DataW.trod_string Tryz.underlying9 h0;cases e0;have hsz:SizeOf.sizeOf y1.1<N:=by
      rw [hx] at hN;simp at hN;omega
     obtain ⟨v,l,e1,o1,r1,hok,hlen,_⟩:=Oz h1 (fun n' cs' y hy hh=>Um N n' cs' y (by omega) hh);cases e1;exact ⟨.mk s.data.toList l,_,_,rfl,⟨rfl,o1,YJ hs,r1⟩,aW.2 ⟨by simp only [Tm.args];simp only [maxLen] at hlen;omega,hok⟩⟩
theorem weightsAll_mem {P:Program} {e:TypeId} {d:DataW H} {w:Nat}:∀ {ds:List (DataW H)},d∈ds→w∈d.weights P e→w∈DataW.weightsAll P e ds
 | d'::ds,hm,hw=>by
   rw [DataW.weightsAll];rcases List.mem_cons.1 hm with rfl | hm
   ·exact List.mem_append_left _ hw
   ·exact List.mem_append_right _ (weightsAll_mem hm hw)
def Light (t:TypeId) (d:DataW H):Prop:=∀ w∈d.weights Tryz.prog t,w≤reachBytes
theorem Light.slice {t e:TypeId} {ds sp:List (DataW H)} (hu:Tryz.prog.underlying t=some (.slice e)) (h:Light t (.slice ds sp)):(ds.length+sp.length)*Tryz.prog.bytesOf e≤reachBytes∧∀ d∈ds,Light e d:=by
 unfold Light at h;rw [DataW.weights,hu] at h;exact ⟨h _ (List.mem_cons_self ..),fun d hd w hw=>h w (List.mem_cons_of_mem _ (List.mem_append_left _ (weightsAll_mem hd hw)))⟩
theorem Light.aas {t:TypeId} {f0 f1:Field} {d0 d1:DataW H} (hu:Tryz.prog.underlying t=some (.struct #[f0,f1])) (h:Light t (.agg [d0,d1])):Light f0.type d0∧Light f1.type d1:=by
 unfold Light at h;rw [DataW.weights,hu] at h;simp only [List.map_cons,List.map_nil,DataW.weightsEach] at h;exact ⟨fun w hw=>h w (by simp [hw]),fun w hw=>h w (by simp [hw])⟩
theorem Light.aar {t:TypeId} {f0 f1 f2:Field} {d0 d1 d2:DataW H} (hu:Tryz.prog.underlying t=some (.struct #[f0,f1,f2])) (h:Light t (.agg [d0,d1,d2])):Light f0.type d0∧Light f1.type d1∧Light f2.type d2:=by
 unfold Light at h;rw [DataW.weights,hu] at h;simp only [List.map_cons,List.map_nil,DataW.weightsEach] at h;exact ⟨fun w hw=>h w (by simp [hw]),fun w hw=>h w (by simp [hw]),fun w hw=>h w (by simp [hw])⟩
set_option maxRecDepth 100000 in
theorem Qp {n:Nat} {cs:List Value} {x:DataW H×List MemPlace} (h:DataW.trod enc Tryz.prog W 0 (fun _=>true) held n 38 cs=some x) (hw:Light 38 x.1) :
  ∃ (v:Value) (l:List Int),cs=[v]∧v.oneCell'=true∧RdD (fun b=>b<W.heap.size) W v (.list (l.map enI))∧l.length≤reachBytes:=by
 have k1:Tryz.prog.cellsOf 3=1:=by kernel_rfl
 have b1:Tryz.prog.bytesOf 3=8:=by kernel_rfl
 rcases Deep.open_slice Tryz.underlying38 h with ⟨rfl,rfl⟩ | ⟨a,len,cap,m,n',DD,Pl,rfl,_,hl,hm,hmm,hx,hel⟩
 ·exact ⟨_,[],rfl,rfl,.lC _,by simp⟩
 simp only [if_true] at hmm;subst hmm;rw [k1] at hel
 obtain ⟨y,hy⟩:=Deep.choose_lt (α:=Int) (n:=len) (p:=fun i z=>W.cell? (a.add (i*1))=some (.int .i64 z)) (fun i hi=>by
  obtain ⟨cs',h1,h2⟩:=hel i (by omega);obtain ⟨z,rfl,_,_⟩:=DataW.trod_int Tryz.underlying3 h2;obtain ⟨_,_,h3⟩:=World.cells?_some h1;have e0:=h3 0 (by omega);rw [Deep.add_add] at e0
  exact ⟨z,by simpa using e0⟩)
 rw [hx] at hw;have hwl:=(Light.slice Tryz.underlying38 hw).1;rw [b1] at hwl;simp only [List.length_map,List.length_range] at hwl;refine ⟨_,(List.range len).map y,rfl,rfl,?_,by simp;omega⟩;refine Jg (sz:=1) (by simp) hl hm (by decide) (fun hc=>?_) fun i x hi=>?_
 ·obtain ⟨cs',h1,_⟩:=hel 0 hc;obtain ⟨_,hlen,h3⟩:=World.cells?_some h1;have:=h3 0 (by omega);rw [Deep.add_add,Nat.zero_mul] at this;rw [this];exact ⟨_,List.getElem?_eq_getElem (by omega)⟩
 ·simp only [List.map_map,List.getElem?_map,Option.map_eq_some_iff] at hi;obtain ⟨r,hri,rfl⟩:=hi;have hi:i<len:=by have:=(List.getElem?_eq_some_iff.1 hri).1;simpa using this
  obtain rfl:r=i:=by rw [List.getElem?_range hi] at hri;exact (Option.some.inj hri).symm
  refine ⟨rfl,fun j c hc=>?_⟩;have hc:[D.int .i64 (y r)][j]?=some c:=hc
  match j,hc with
  | 0,hc=>obtain rfl:=Option.some.inj hc;exact ⟨_,hy r hi,rfl,rfl,.int _ _⟩
  | j+1,hc=>simp at hc
def aai (W:World) (r:Gr) (v1 v2:Value):Prop:=v1.oneCell'=true∧v2.oneCell'=true∧RdD (fun b=>b<W.heap.size) W v1 (.list (r.2.1.map enI))∧RdD (fun b=>b<W.heap.size) W v2 (.list (r.2.2.map enI))
set_option maxRecDepth 100000 in
theorem WW {n:Nat} {cs:List Value} {x:DataW H×List MemPlace} (h:DataW.trod enc Tryz.prog W 0 (fun _=>true) held n 64 cs=some x) (hw:Light 64 x.1) :
  ∃ (r:Gr) (v1 v2:Value),cs=[.int .i64 r.1,v1,v2]∧aai W r v1 v2∧r.2.1.length≤reachBytes∧r.2.2.length≤reachBytes:=by
 have k1:Tryz.prog.cellsOf 3=1:=by kernel_rfl
 have k1':Tryz.prog.cellsOf 38=1:=by kernel_rfl
 have k3:Tryz.prog.cellsOf 64=3:=by kernel_rfl
 obtain ⟨y0,y1,y2,m,hx,hl,h0,h1,h2⟩:=Deep.trod_struct3 Tryz.underlying64 h;rw [k3] at hl;rw [hx] at hw;obtain ⟨_,w1,w2⟩:=Light.aar Tryz.underlying64 hw
 match cs,hl with
 | [c0,c1,c2],_=>
   simp only [k1,k1',List.drop,List.take] at h0 h1 h2;obtain ⟨z,e0,_,_⟩:=DataW.trod_int Tryz.underlying3 h0;obtain ⟨v1,l1,e1,o1,r1,g1⟩:=Qp h1 w1;obtain ⟨v2,l2,e2,o2,r2,g2⟩:=Qp h2 w2;cases e0;cases e1;cases e2;exact ⟨(z,l1,l2),_,_,rfl,⟨o1,o2,r1,r2⟩,g1,g2⟩
set_option maxRecDepth 100000 in
theorem Un {n:Nat} {cs:List Value} {x:DataW H×List MemPlace} (h:DataW.trod enc Tryz.prog W 0 (fun _=>true) held n 23 cs=some x) (hw:Light 23 x.1) :
  ∃ (v:Value) (l:List Gr),cs=[v]∧v.oneCell'=true∧RdD (fun b=>b<W.heap.size) W v (.list (l.map enG))∧l.length≤reachBytes∧∀ r∈l,r.2.1.length≤reachBytes∧r.2.2.length≤reachBytes:=by
 have k3:Tryz.prog.cellsOf 64=3:=by kernel_rfl
 have b3:Tryz.prog.bytesOf 64=56:=by kernel_rfl
 rcases Deep.open_slice Tryz.underlying23 h with ⟨rfl,rfl⟩ | ⟨a,len,cap,m,n',DD,Pl,rfl,_,hl,hm,hmm,hx,hel⟩
 ·exact ⟨_,[],rfl,rfl,.lC _,by simp,fun _ h=>by cases h⟩
 simp only [if_true] at hmm;subst hmm;rw [k3] at hel;rw [hx] at hw;obtain ⟨hwl,hwe⟩:=Light.slice Tryz.underlying23 hw;rw [b3] at hwl;simp only [List.length_map,List.length_range] at hwl
 obtain ⟨y,hy⟩:=Deep.choose_lt (α:=Gr) (n:=len) (p:=fun i r=>(∃ v1 v2,W.cell? (a.add (i*3+0))=some (.int .i64 r.1)∧W.cell? (a.add (i*3+1))=some v1∧W.cell? (a.add (i*3+2))=some v2∧aai W r v1 v2)∧r.2.1.length≤reachBytes∧r.2.2.length≤reachBytes) (fun i hi=>by
  obtain ⟨cs',h1,h2⟩:=hel i (by omega);obtain ⟨r,v1,v2,rfl,hr,g1,g2⟩:=WW h2 (hwe _ (List.mem_map.2 ⟨i,List.mem_range.2 hi,rfl⟩));obtain ⟨_,_,h3⟩:=World.cells?_some h1;have e0:=h3 0 (by omega);have e1:=h3 1 (by omega);have e2:=h3 2 (by omega);rw [Deep.add_add] at e0 e1 e2
  exact ⟨r,⟨v1,v2,by simpa using e0,by simpa using e1,by simpa using e2,hr⟩,g1,g2⟩)
 refine ⟨_,(List.range len).map y,rfl,rfl,?_,by simp;omega,fun r hr=>?_⟩
 ·refine Jg (sz:=3) (by simp) hl hm (by decide) (fun hc=>?_) fun i x hi=>?_
  ·obtain ⟨cs',h1,_⟩:=hel 0 hc;obtain ⟨_,hlen,h3⟩:=World.cells?_some h1;have:=h3 0 (by omega);rw [Deep.add_add,Nat.zero_mul] at this;rw [this];exact ⟨_,List.getElem?_eq_getElem (by omega)⟩
  ·simp only [List.map_map,List.getElem?_map,Option.map_eq_some_iff] at hi;obtain ⟨r,hri,rfl⟩:=hi;have hi:i<len:=(by have:=(List.getElem?_eq_some_iff.1 hri).1;simpa using this);obtain rfl:r=i:=by rw [List.getElem?_range hi] at hri;exact (Option.some.inj hri).symm
   obtain ⟨⟨v1,v2,c0,c1,c2,o1,o2,r1,r2⟩,_⟩:=hy r hi;refine ⟨rfl,fun j c hc=>?_⟩;have hc:[D.int .i64 (y r).1,D.list ((y r).2.1.map enI),D.list ((y r).2.2.map enI)][j]?=some c:=hc
   match j,hc with
   | 0,hc=>obtain rfl:=Option.some.inj hc;exact ⟨_,c0,rfl,rfl,.int _ _⟩
   | 1,hc=>obtain rfl:=Option.some.inj hc;exact ⟨v1,c1,o1,rfl,r1⟩
   | 2,hc=>obtain rfl:=Option.some.inj hc;exact ⟨v2,c2,o2,rfl,r2⟩
   | j+3,hc=>simp at hc
 ·obtain ⟨q,hq,rfl⟩:=List.mem_map.1 hr;exact (hy q (List.mem_range.1 hq)).2
set_option maxRecDepth 100000 in
theorem RZ {r:Reach} {b0:Nat} {v:Value} {d:DataW H} {p:List MemPlace} (hval:Value.okWide Tryz.prog W r b0 25 v) (h:DataW.Trod enc Tryz.prog W 0 (fun _=>true) held 25 v d p) (hw:Light 25 d) :
  ∃ (atoms:List Tm) (rules:List Gr),RdD (fun b=>b<W.heap.size) W v (gD atoms rules)∧(∀ x∈atoms,okT x)∧atoms.length≤reachBytes∧rules.length≤reachBytes∧∀ r∈rules,r.2.1.length≤reachBytes∧r.2.2.length≤reachBytes:=by
 have k1:Tryz.prog.cellsOf 22=1:=by kernel_rfl
 have k1':Tryz.prog.cellsOf 23=1:=by kernel_rfl
 have k2:Tryz.prog.cellsOf 25=2:=by kernel_rfl
 have b2:Tryz.prog.bytesOf 52=40:=by kernel_rfl
 obtain ⟨vs,rfl,hsz⟩:=okWide_struct Tryz.underlying25 hval;obtain ⟨fuel,h⟩:=h;obtain ⟨y0,y1,m,hx,hl,h0,h1⟩:=trod_struct2 Tryz.underlying25 h;rw [k2] at hsz;obtain ⟨c0,c1,rfl⟩:∃ c0 c1,vs=#[c0,c1]:=by
  match vs,hsz with
  | ⟨[c0,c1]⟩,_=>exact ⟨c0,c1,rfl⟩
 have h0:DataW.trod enc Tryz.prog W 0 (fun _=>true) held m 22 [c0]=some y0:=by
  rw [k1] at h0;exact h0
 have h1:DataW.trod enc Tryz.prog W 0 (fun _=>true) held m 23 [c1]=some y1:=by
  rw [k1'] at h1;exact h1
 have hd:d = .agg [y0.1,y1.1]:=congrArg Prod.fst hx;subst hd;obtain ⟨w0,w1⟩:=Light.aas Tryz.underlying25 hw;obtain ⟨va,la,ea,oa,ra,hok,_,hsl⟩:=Oz h0 (fun n' cs' y _ hh=>Um _ n' cs' y (Nat.lt_succ_self _) hh);obtain ⟨vr,lr,er,orr,rr,g1,g2⟩:=Un h1 w1;cases ea;cases er;refine ⟨la,lr,?_,hok,?_,g1,g2⟩
 ·refine .agg _ _ rfl (fun i v c hv hc=>?_) (fun i v c hv hc=>?_)
  ·match i,hv,hc with
   | 0,hv,hc=>cases hv;cases hc;exact ra
   | 1,hv,hc=>cases hv;cases hc;exact rr
   | i+2,hv,hc=>simp at hc
  ·match i,hv,hc with
   | 0,hv,hc=>cases hv;cases hc;exact ⟨oa,rfl⟩
   | 1,hv,hc=>cases hv;cases hc;exact ⟨orr,rfl⟩
   | i+2,hv,hc=>simp at hc
 ·rcases hsl with rfl | ⟨ds,sp,hy,hlen⟩
  ·simp
  ·rw [hy] at w0;have:=(Light.slice Tryz.underlying22 w0).1;rw [b2] at this;omega
set_option maxRecDepth 100000 in
theorem Us {r:Reach} {b0:Nat} {v:Value} {d:DataW H} {p:List MemPlace} (hval:Value.okWide Tryz.prog W r b0 22 v) (h:DataW.Trod enc Tryz.prog W 0 (fun _=>true) held 22 v d p) (hw:Light 22 d) :
  ∃ names:List Tm,RdD (fun b=>b<W.heap.size) W v (.list (names.map enT))∧(∀ x∈names,okT x)∧names.length≤reachBytes:=by
 have b2:Tryz.prog.bytesOf 52=40:=by kernel_rfl
 obtain ⟨a,len,cap,rfl⟩:=okWide_slice Tryz.underlying22 hval;obtain ⟨fuel,h⟩:=h;obtain ⟨va,la,ea,oa,ra,hok,_,hsl⟩:=Oz (x:=(d,p)) h (fun n' cs' y _ hh=>Um _ n' cs' y (Nat.lt_succ_self _) hh);have ev:Value.slice a len cap=va:=by simpa [Value.cells] using ea
 subst ev;refine ⟨la,ra,hok,?_⟩;rcases hsl with rfl | ⟨ds,sp,hy,hlen⟩
 ·simp
 ·have hy:d = .slice ds sp:=hy;rw [hy] at hw;have:=(Light.slice Tryz.underlying22 hw).1;rw [b2] at this;omega
end
end Go.Proofs.YtdonenoiehdahaaGreat
