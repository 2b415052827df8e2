/- Walks: the size of a ground description, as the program tells it (given what model.Strata answers). -/
import Derived.Test.YtdonenoiehdahaaGreatGrBAnd
import Derived.Test.YtdonenoiehdahaaGreatTmMAnd
set_option linter.all false
namespace Go.Proofs.YtdonenoiehdahaaGreat
open Go Go.Abs Go.Own
attribute [local irreducible] WP
def eY:Str:=[116,114,117,101]
def bC:Str:=[100,111,101,115]
def iF (t:Tm):Bool:=(t.name==eY&&decide (t.args.length=1))||(t.name==bC&&decide (t.args.length=2))
def aZ (atoms:List Tm) (r:Gr):Bool:=match atoms[r.1.toNat]? with | some t=>iF t | none=>false
noncomputable def bV (rules:List Gr) (g:List Nat):Nat:=match xU rules g with
 | true=>g.length*(g.length+fD rules g)
 | false=>g.length+fD rules g
noncomputable def iT (n:Nat) (rules:List Gr) (G:List (List Nat)):Nat:=2+2*n+(G.map (bV rules)).sum
noncomputable def jK (atoms:List Tm) (rules:List Gr) (names:List Tm) (e:Int):Int×Int:=
 match aK atoms rules&&aX names with
 | false=>(0,13)
 | true=>match rules.any (aZ atoms) with
   | true=>(0,13)
   | false=>match decide (e=0) with
     | false=>(0,e)
     | true=>match decide (16384<iT atoms.length rules (aQ (bg atoms.length (aA atoms.length rules)) atoms.length)) with
       | true=>(0,11)
       | false=>(iT atoms.length rules (aQ (bg atoms.length (aA atoms.length rules)) atoms.length),0)
theorem Tryz.given (t:Tm):Pure Tryz.prog 30 [tD t.name t.args] [.bool (iF t)]:=by
 unfold iF;refine Pure.of_wp hT (nt:=_) (c:=_) Tryz.func30 rfl rfl rfl rfl (by kernel_rfl) ?_;intro w0 ok0 β0;repeat (refine gw rfl ?_;conv=>whnf)
 rw [show ({ data:=#[116,114,117,101] }:ByteArray).data.toList=eY from rfl];cases h1:t.name==eY with
 | true=>
   have hne:(t.name==bC)=false:=by
    have:t.name=eY:=(by simpa using h1);rw [this];rfl
   rw [hne];(conv=>whnf);rw [List.length_map,show (((t.args.length:Nat):Int)==1)=decide (t.args.length=1) by rw [Bool.eq_iff_iff];simp;omega];cases h2:decide (t.args.length=1) with
   | true=>
     (conv=>whnf);(repeat (refine gw rfl ?_;conv=>whnf));rfl
   | false=>
     (conv=>whnf);rw [show ({ data:=#[100,111,101,115] }:ByteArray).data.toList=bC from rfl,hne];(conv=>whnf);(repeat (refine gw rfl ?_;conv=>whnf));rfl
 | false=>
   (conv=>whnf);rw [show ({ data:=#[100,111,101,115] }:ByteArray).data.toList=bC from rfl];cases h3:t.name==bC with
   | true=>
     (conv=>whnf);rw [List.length_map,show (((t.args.length:Nat):Int)==2)=decide (t.args.length=2) by rw [Bool.eq_iff_iff];simp;omega];(repeat (refine gw rfl ?_;conv=>whnf));rw [Bool.false_and,Bool.false_or,Bool.true_and]
   | false=>
     (conv=>whnf);(repeat (refine gw rfl ?_;conv=>whnf));rfl
theorem Tryz.ZY (t:Tm) (s:Str) (k:Nat):Pure Tryz.prog 36 [tD t.name t.args,.str s,.int .i64 k] [.bool (t.name==s&&decide (t.args.length=k))]:=by
 refine Pure.of_wp hT (nt:=_) (c:=_) Tryz.func36 rfl rfl rfl rfl (by kernel_rfl) ?_;intro w0 ok0 β0;repeat (refine gw rfl ?_;conv=>whnf)
 cases h:t.name==s with
 | false=>
   (conv=>whnf);(repeat (refine gw rfl ?_;conv=>whnf));rw [Bool.false_and]
 | true=>
   (conv=>whnf);(repeat (refine gw rfl ?_;conv=>whnf));rw [List.length_map,Bool.true_and,show (((t.args.length:Nat):Int)==((k:Nat):Int))=decide (t.args.length=k) by rw [Bool.eq_iff_iff];simp;omega]
theorem Vf {atoms:List Tm} {r:Gr} (h:r.1.toNat<atoms.length):aZ atoms r=iF atoms[r.1.toNat]:=by
 unfold aZ;rw [List.getElem?_eq_getElem h]
theorem vU {l:List Tm} {i:Nat} (h:i<l.length):(l.map enT)[i]?=some (tD l[i].name l[i].args):=by
 have:=dB h
 rwa [Int.toNat_natCast] at this
theorem KD {l:List Nat} {i:Nat} (h:i<l.length):(l.take (i+1)).sum=(l.take i).sum+l[i]:=by
 rw [List.take_succ_eq_append_getElem h,List.sum_append];simp
theorem D9 (rules:List Gr) (g:List Nat):fD rules g≤g.length*rules.length:=by
 unfold fD
 induction g with
 | nil=>simp
 | cons a g ih=>
   have:=yB rules a rules.length;rw [List.map_cons,List.sum_cons,List.length_cons,Nat.succ_mul];omega
theorem OY (rules:List Gr) (g:List Nat) {k:Nat} (hk:k<g.length):fD rules (g.take (k+1))=fD rules (g.take k)+(aI rules g[k] rules.length).length:=by
 unfold fD;rw [List.take_succ_eq_append_getElem hk,List.map_append,List.sum_append];simp
theorem Lh (rules:List Gr) (g:List Nat) (hg:g.length≤64) (hr:rules.length≤128):bV rules g≤1000000:=by
 have h1:=D9 rules g;have h2:g.length*rules.length≤64*128:=Nat.mul_le_mul hg hr;have h3:g.length*(g.length+fD rules g)≤64*8256:=Nat.mul_le_mul hg (by omega);unfold bV;split<;>omega
theorem TT {l:List Nat} {b:Nat} (h:∀ x∈l,x≤b):l.sum≤l.length*b:=by
 induction l with
 | nil=>simp
 | cons x l ih=>
   have:=ih fun y hy=>h y (by simp [hy])
   have hx:=h x (by simp);rw [List.sum_cons,List.length_cons,Nat.succ_mul];omega
theorem rH (d:List (List Bool)) (n:Nat):∀ (k:Nat) (l:List Bool) (out:List (List Nat)),(Own.wI d n k l out).length≤out.length+k
 | 0,l,out=>by unfold Own.wI;omega
 | k+1,l,out=>by
   unfold Own.wI;split
   ·omega
   ·have:=rH d n k (bM l (grp d n ‹Nat›)) (out++[grp d n ‹Nat›]);rw [List.length_append,List.length_singleton] at this;omega
theorem pF {G:List (List Nat)} {g:List Nat} {i:Nat} (h:G[i]?=some g):(dH G)[((i:Int)).toNat]?=some (.list (g.map enN)):=JB (f:=fun (g:List Nat)=>D.list (g.map enN)) h
set_option maxRecDepth 10000 in
theorem Tryz.Vt (atoms:List Tm) (rules:List Gr) (names:List Tm) (hid:Bool) (e:Int) (x:D) (hok:∀ x∈atoms,okT x) (hn:atoms.length≤64) (hr:rules.length≤128) (hf:∀ r∈rules,r.2.1.length+r.2.2.length≤16)
  (hokn:∀ x∈names,okT x) (hln:names.length≤1000000) (hS:aK atoms rules=true→Pure Tryz.prog 31 [gD atoms rules] [x,.int .i64 e]) :
  Pure Tryz.prog 9 [gD atoms rules,.list (names.map enT),.bool hid] [.int .i64 (jK atoms rules names e).1,.int .i64 (jK atoms rules names e).2]:=by
 have hfit:zJ rules:=fun r h=>by have:=hf r h;omega
 have hGr:=Tryz.SX atoms rules hok hn hr hf;unfold uO at hGr;unfold jK;refine Pure.of_wp hT (nt:=_) (c:=_) Tryz.func9 rfl rfl rfl rfl (by kernel_rfl) ?_;intro w0 ok0 β0;repeat (refine gw rfl ?_;conv=>whnf)
 refine .inl ⟨_,Tryz.Ce atoms rules hok hfit,.inl rfl,?_⟩;conv=>whnf
 cases hv:aK atoms rules with
 | false=>
   (conv=>whnf);(repeat (refine gw rfl ?_;conv=>whnf));rfl
 | true=>
   rw [hv] at hGr;dsimp only at hGr;have hin:=eP hv;(conv=>whnf);refine .inl ⟨_,Tryz.names names (by omega) hokn,.inl rfl,?_⟩;(conv=>whnf);cases hro:aX names with
   | false=>
     (conv=>whnf);(repeat (refine gw rfl ?_;conv=>whnf));rfl
   | true=>
     rw [Bool.true_and];(conv=>whnf);(repeat (refine gw rfl ?_;conv=>whnf));rw [List.length_map];refine WP.loop (α:=Nat) (fun i=>⟨[(3,.d (.ref [.list (atoms.map enT),.list (rules.map enG)] 0)),(29,.d (.list (rules.map enG))),(30,.d (.int .i64 rules.length)),(31,.d (.int .i64 i))],[],[]⟩)
      (fun i=>i≤rules.length∧∀ j (h:j<rules.length),j<i→aZ atoms rules[j]=false) (fun i=>rules.length-i) 0 [] [] ?_ ?_ ?_
     ·((conv=>whnf);repeat (first | exact ⟨⟩ | (refine ⟨by first | rfl | (simp;done) | (simp;omega),?_⟩;conv=>whnf)))
     ·exact ⟨Nat.zero_le _,fun j _ h=>by omega⟩
     ·rintro i ⟨hi,hno⟩;(repeat (refine gw rfl ?_;conv=>whnf));(split<;>rename_i hb<;>(try rw [hb])<;>(conv=>whnf))
      ·have hlt:i<rules.length:=(by simpa using hb);clear hb;have hm:=hin.head rules[i] (List.getElem_mem hlt);have hml:rules[i].1.toNat<atoms.length:=(by omega);(repeat (refine gw rfl ?_;conv=>whnf));refine ⟨by omega,_,Md hlt,rfl,?_⟩;(conv=>whnf);(repeat (refine gw rfl ?_;conv=>whnf));refine ⟨by omega,_,vU hml,rfl,?_⟩;(conv=>whnf);refine .inl ⟨_,Tryz.given atoms[rules[i].1.toNat],.inl rfl,?_⟩;(conv=>whnf);rw [← Vf hml];cases hg:aZ atoms rules[i] with
       | true=>
         rw [show rules.any (aZ atoms)=true from List.any_eq_true.2 ⟨rules[i],List.getElem_mem hlt,hg⟩];(conv=>whnf);repeat (refine gw rfl ?_;conv=>whnf)
       | false=>
         (conv=>whnf);(repeat (refine gw rfl ?_;conv=>whnf));refine ⟨by omega,?_⟩;(conv=>whnf);refine ⟨i+1,[],[],?_,⟨by omega,fun j h hj=>?_⟩,by omega⟩
         ·((conv=>whnf);repeat (first | exact ⟨⟩ | (refine ⟨by first | rfl | (simp;done) | (simp;omega),?_⟩;conv=>whnf)))
         ·rcases Nat.lt_or_ge j i with h1 | h1
          ·exact hno j h h1
          ·obtain rfl:j=i:=by omega
           exact hg
      ·have:i=rules.length:=(by simp at hb;omega);subst this;clear hb
       rw [show rules.any (aZ atoms)=false from List.any_eq_false.2 fun r hr=>by
        obtain ⟨j,hj,rfl⟩:=List.mem_iff_getElem.1 hr
        rw [hno j hj hj];simp]
       (repeat (refine gw rfl ?_;conv=>whnf));refine .inl ⟨_,hS hv,.inl rfl,?_⟩;(conv=>whnf);(repeat (refine gw rfl ?_;conv=>whnf));by_cases he:e=0
       ·subst he;rw [show ((0:Int) != 0)=false from rfl,show decide ((0:Int)=0)=true from rfl];(conv=>whnf);(repeat (refine gw rfl ?_;conv=>whnf));refine .inl ⟨_,Tryz.heads atoms rules hin hn hr,.inl rfl,?_⟩;(conv=>whnf);(repeat (refine gw rfl ?_;conv=>whnf));rw [List.length_map];refine ⟨by omega,?_⟩;(conv=>whnf);refine ⟨by omega,?_⟩;(conv=>whnf);(repeat (refine gw rfl ?_;conv=>whnf));refine .inl ⟨_,hGr,.inl rfl,?_⟩;(conv=>whnf);obtain ⟨n,hnn⟩:∃ n,atoms.length=n:=⟨_,rfl⟩
        rw [hnn] at hin hn ⊢;have hGl:(aQ (bg n (aA n rules)) n).length≤n+1:=by
         have:=rH (bg n (aA n rules)) n (n+1) (List.replicate n false) [];unfold aQ;simpa using this
        have hGe:=nO (bg n (aA n rules)) n;have hgl:∀ a,(grp (bg n (aA n rules)) n a).length≤n:=fun a=>by
         have:=List.length_filter_le (dF (bg n (aA n rules)) a) (List.range n);rw [List.length_range] at this;exact this
        generalize hGG:aQ (bg n (aA n rules)) n=G at hGl hGe;have hg64:∀ g∈G,g.length≤64:=fun g hg=>by
         obtain ⟨a,_,rfl⟩:=hGe g hg;have:=hgl a;omega
        have hsz:∀ i,((G.map (bV rules)).take i).sum≤65000000:=fun i=>by
         have h1:=TT (l:=(G.map (bV rules)).take i) (b:=1000000) fun x hx=>by
          obtain ⟨g,hg,rfl⟩:=List.mem_map.1 (List.mem_of_mem_take hx);exact Lh rules g (hg64 g hg) hr
         have h2:((G.map (bV rules)).take i).length*1000000≤65*1000000:=Nat.mul_le_mul_right _ (by rw [List.length_take,List.length_map];omega);omega
        (repeat (refine gw rfl ?_;conv=>whnf));refine WP.loop (α:=Nat) (fun i=>⟨[(3,.d (.ref [.list (atoms.map enT),.list (rules.map enG)] 0)),(12,.d (.list ((hdM n rules rules.length).map fun r => .list (r.map enI)))),(13,.d (.int .i64 ((2+2*n+((G.map (bV rules)).take i).sum:Nat):Int))),(59,.d (.list (dH G))),(60,.d (.int .i64 G.length)),(61,.d (.int .i64 i))],[],[]⟩)
         (fun i=>i≤G.length) (fun i=>G.length-i) 0 [] [] ?_ ?_ ?_
        ·rw [show ((dH G).length:Int)=(G.length:Nat) by simp [dH],show (2:Int)+2*((n:Nat):Int)=((2+2*n+((G.map (bV rules)).take 0).sum:Nat):Int) by simp];((conv=>whnf);repeat (first | exact ⟨⟩ | (refine ⟨by first | rfl | (simp;done) | (simp;omega),?_⟩;conv=>whnf)))
        ·exact Nat.zero_le _
        ·intro i hi;have hszi:=hsz i;(repeat (refine gw rfl ?_;conv=>whnf));(split<;>rename_i hb<;>(try rw [hb])<;>(conv=>whnf))
         ·have hlt:i<G.length:=(by simpa using hb);clear hb;obtain ⟨g,hg⟩:∃ g,G[i]?=some g:=⟨_,List.getElem?_eq_getElem hlt⟩
          have hgm:g∈G:=List.mem_of_getElem? hg;obtain ⟨a,ha,hga⟩:=hGe g hgm;have hg6:=hg64 g hgm;have hgn:∀ x∈g,x<n:=fun x hx=>by rw [hga] at hx;exact (cO.1 hx).1
          have hgp:g.Pairwise (·<·):=(by rw [hga];exact List.Pairwise.filter _ List.pairwise_lt_range);(repeat (refine gw rfl ?_;conv=>whnf));refine ⟨by omega,_,pF hg,rfl,?_⟩;(conv=>whnf);(repeat (refine gw rfl ?_;conv=>whnf));refine WP.loop (α:=Nat) (fun j=>⟨[(3,.d (.ref [.list (atoms.map enT),.list (rules.map enG)] 0)),(12,.d (.list ((hdM n rules rules.length).map fun r => .list (r.map enI)))),(13,.d (.int .i64 ((2+2*n+((G.map (bV rules)).take i).sum:Nat):Int))),(15,.d (.list (g.map enN))),(16,.d (.int .i64 g.length)),(17,.d (.int .i64 (fD rules (g.take j):Nat))),(59,.d (.list (dH G))),(60,.d (.int .i64 G.length)),(61,.d (.int .i64 i)),(67,.d (.list (g.map enN))),(68,.d (.int .i64 g.length)),(69,.d (.int .i64 j))],[],[]⟩)
           (fun j=>j≤g.length) (fun j=>g.length-j) 0 [] [] ?_ ?_ ?_
          ·rw [List.length_map];((conv=>whnf);repeat (first | exact ⟨⟩ | (refine ⟨by first | rfl | (simp;done) | (simp;omega),?_⟩;conv=>whnf)))
          ·exact Nat.zero_le _
          ·intro j hj;have hsj:=D9 rules (g.take j);have hsj2:(g.take j).length*rules.length≤64*128:=Nat.mul_le_mul (by rw [List.length_take];omega) hr;(repeat (refine gw rfl ?_;conv=>whnf));(split<;>rename_i hb<;>(try rw [hb])<;>(conv=>whnf))
           ·have hjl:j<g.length:=(by simpa using hb);clear hb;have hxn:=hgn g[j] (List.getElem_mem hjl);have hrl:=yB rules g[j] rules.length;(repeat (refine gw rfl ?_;conv=>whnf));refine ⟨by omega,_,ay hjl,rfl,?_⟩;(conv=>whnf);(repeat (refine gw rfl ?_;conv=>whnf));refine ⟨by omega,_,Vj hxn,rfl,?_⟩;(conv=>whnf);rw [List.length_map];refine ⟨by omega,?_⟩;(conv=>whnf);(repeat (refine gw rfl ?_;conv=>whnf));refine ⟨by omega,?_⟩;(conv=>whnf);refine ⟨j+1,[],[],?_,by omega,by omega⟩;rw [OY rules g hjl,Int.natCast_add];((conv=>whnf);repeat (first | exact ⟨⟩ | (refine ⟨by first | rfl | (simp;done) | (simp;omega),?_⟩;conv=>whnf)))
           ·have:j=g.length:=(by simp at hb;omega);subst this;clear hb;rw [List.take_length] at hsj hsj2 ⊢;(repeat (refine gw rfl ?_;conv=>whnf));refine .inl ⟨_,Tryz.recursive atoms rules n g hn hr hgp hgn hg6 hf,.inl rfl,?_⟩;(conv=>whnf);have hgi:(G.map (bV rules))[i]'(by rw [List.length_map];exact hlt)=bV rules g:=by
             rw [List.getElem_map];have:=List.getElem?_eq_getElem hlt;rw [hg] at this;rw [← Option.some.inj this]
            have hst:=KD (l:=G.map (bV rules)) (i:=i) (by rw [List.length_map];exact hlt);rw [hgi] at hst;have hmul:g.length*(g.length+fD rules g)≤64*8256:=Nat.mul_le_mul hg6 (by omega);cases hre:xU rules g with
            | true=>
              have hp:bV rules g=g.length*(g.length+fD rules g):=(by unfold bV;rw [hre]);(conv=>whnf);(repeat (refine gw rfl ?_;conv=>whnf));refine ⟨by omega,?_⟩;(conv=>whnf);rw [show ((g.length:Nat):Int)*(((g.length:Nat):Int)+((fD rules g:Nat):Int))=((g.length*(g.length+fD rules g):Nat):Int) by rw [Int.natCast_mul,Int.natCast_add]];refine ⟨by omega,?_⟩;(conv=>whnf);refine ⟨by omega,?_⟩;(conv=>whnf);(repeat (refine gw rfl ?_;conv=>whnf));refine ⟨by omega,?_⟩;(conv=>whnf);refine ⟨i+1,[],[],?_,by omega,by omega⟩;rw [hst,hp,← Int.natCast_add,Nat.add_assoc];((conv=>whnf);repeat (first | exact ⟨⟩ | (refine ⟨by first | rfl | (simp;done) | (simp;omega),?_⟩;conv=>whnf)))
            | false=>
              have hp:bV rules g=g.length+fD rules g:=(by unfold bV;rw [hre]);(conv=>whnf);(repeat (refine gw rfl ?_;conv=>whnf));refine ⟨by omega,?_⟩;(conv=>whnf);refine ⟨by omega,?_⟩;(conv=>whnf);(repeat (refine gw rfl ?_;conv=>whnf));refine ⟨by omega,?_⟩;(conv=>whnf);refine ⟨i+1,[],[],?_,by omega,by omega⟩;rw [hst,hp,← Int.natCast_add,← Int.natCast_add,Nat.add_assoc];((conv=>whnf);repeat (first | exact ⟨⟩ | (refine ⟨by first | rfl | (simp;done) | (simp;omega),?_⟩;conv=>whnf)))
         ·have:i=G.length:=(by simp at hb;omega);subst this;clear hb;(repeat (refine gw rfl ?_;conv=>whnf));rw [List.take_of_length_le (by rw [List.length_map];omega)];have hsd:2+2*n+(G.map (bV rules)).sum=iT n rules G:=rfl;rw [hsd];rw [show decide (((iT n rules G:Nat):Int)>16384)=decide (16384<iT n rules G) by rw [Bool.eq_iff_iff];simp;omega];cases hbig:decide (16384<iT n rules G) with
          | true=>
            (conv=>whnf);repeat (refine gw rfl ?_;conv=>whnf)
          | false=>
            (conv=>whnf);repeat (refine gw rfl ?_;conv=>whnf)
       ·rw [show (e != 0)=true by simpa using he,decide_eq_false he];(conv=>whnf);repeat (refine gw rfl ?_;conv=>whnf)
theorem Tc (t:Tm):iF t=((t.name==eY&&decide (t.args.length=1))||(t.name==bC&&decide (t.args.length=2))):=rfl
theorem WV {n a g0:Nat} {rules:List Gr} {g:List Nat} (hi:dZ n rules) (ha:a<n) (hg:g=grp (bg n (aA n rules)) n a) (h0:g[0]?=some g0):g0<n∧dAt (bg n (aA n rules)) g0 g0=xU rules g:=by
 have hm:g0∈grp (bg n (aA n rules)) n a:=by rw [← hg];exact List.mem_of_getElem? h0
 have hn:=(cO.1 hm).1;refine ⟨hn,?_⟩;rw [yO hn hn];have key:=Ul hi ha hm;rw [← hg] at key;by_cases h:Rch (aA n rules) g0 g0
 ·rw [iV.2 h,Jf (key.2 h)]
 ·rw [Oy (fun hr=>h (key.1 hr))];cases hb:Bl (aA n rules) g0 g0 with
  | false=>rfl
  | true=>exact absurd (iV.1 hb) h
set_option maxRecDepth 10000 in
theorem Tryz.XP (atoms:List Tm) (rules:List Gr) (names:List Tm) (hid:Bool) (e:Int) (x:D) (hok:∀ x∈atoms,okT x) (hn:atoms.length≤64) (hr:rules.length≤128) (hf:∀ r∈rules,r.2.1.length+r.2.2.length≤16)
  (hln:names.length≤1000000) (hS:aK atoms rules=true→Pure Tryz.prog 37 [gD atoms rules] [x,.int .i64 e]) :
  Pure Tryz.prog 10 [gD atoms rules,.list (names.map enT),.bool hid] [.int .i64 (jK atoms rules names e).1,.int .i64 (jK atoms rules names e).2]:=by
 have hfit:zJ rules:=fun r h=>by have:=hf r h;omega
 have hGr:=Tryz.Vp atoms rules hok hn hr hf;unfold uO at hGr;unfold jK;refine Pure.of_wp hT (nt:=_) (c:=_) Tryz.func10 rfl rfl rfl rfl (by kernel_rfl) ?_;intro w0 ok0 β0;repeat (refine gw rfl ?_;conv=>whnf)
 refine .inl ⟨_,Tryz.BD atoms rules hok hfit,.inl rfl,?_⟩;conv=>whnf
 cases hv:aK atoms rules with
 | false=>
   (conv=>whnf);(repeat (refine gw rfl ?_;conv=>whnf));rfl
 | true=>
   rw [hv] at hGr;dsimp only at hGr;have hin:=eP hv;(conv=>whnf);refine .inl ⟨_,Tryz.WT names (by omega),.inl rfl,?_⟩;(conv=>whnf);cases hro:aX names with
   | false=>
     (conv=>whnf);(repeat (refine gw rfl ?_;conv=>whnf));rfl
   | true=>
     rw [Bool.true_and];(conv=>whnf);(repeat (refine gw rfl ?_;conv=>whnf));refine WP.loop (α:=Nat) (fun i=>⟨[(3,.d (.ref [.list (atoms.map enT),.list (rules.map enG)] 0)),(8,.d (.int .i64 i))],[],[]⟩)
      (fun i=>i≤rules.length∧∀ j (h:j<rules.length),j<i→aZ atoms rules[j]=false) (fun i=>rules.length-i) 0 [] [] ?_ ?_ ?_
     ·((conv=>whnf);repeat (first | exact ⟨⟩ | (refine ⟨by first | rfl | (simp;done) | (simp;omega),?_⟩;conv=>whnf)))
     ·exact ⟨Nat.zero_le _,fun j _ h=>by omega⟩
     ·rintro i ⟨hi,hno⟩;(repeat (refine gw rfl ?_;conv=>whnf));rw [List.length_map];(split<;>rename_i hb<;>(try rw [hb])<;>(conv=>whnf))
      ·have hlt:i<rules.length:=(by simpa using hb);clear hb;have hm:=hin.head rules[i] (List.getElem_mem hlt);have hml:rules[i].1.toNat<atoms.length:=(by omega);(repeat (refine gw rfl ?_;conv=>whnf));refine ⟨by omega,_,Md hlt,rfl,?_⟩;(conv=>whnf);refine ⟨by omega,_,vU hml,rfl,?_⟩;(conv=>whnf);(repeat (refine gw rfl ?_;conv=>whnf));refine .inl ⟨_,Tryz.ZY atoms[rules[i].1.toNat] eY 1,.inl rfl,?_⟩;(conv=>whnf);have hgt:=Vf hml;rw [Tc] at hgt;cases hA:atoms[rules[i].1.toNat].name==eY&&decide (atoms[rules[i].1.toNat].args.length=1) with
       | true=>
         rw [hA,Bool.true_or] at hgt;rw [show rules.any (aZ atoms)=true from List.any_eq_true.2 ⟨rules[i],List.getElem_mem hlt,hgt⟩];(conv=>whnf);repeat (refine gw rfl ?_;conv=>whnf)
       | false=>
         rw [hA,Bool.false_or] at hgt;(conv=>whnf);refine .inl ⟨_,Tryz.ZY atoms[rules[i].1.toNat] bC 2,.inl rfl,?_⟩;(conv=>whnf);cases hB:atoms[rules[i].1.toNat].name==bC&&decide (atoms[rules[i].1.toNat].args.length=2) with
         | true=>
           rw [hB] at hgt;rw [show rules.any (aZ atoms)=true from List.any_eq_true.2 ⟨rules[i],List.getElem_mem hlt,hgt⟩];(conv=>whnf);repeat (refine gw rfl ?_;conv=>whnf)
         | false=>
           rw [hB] at hgt;(conv=>whnf);(repeat (refine gw rfl ?_;conv=>whnf));refine ⟨by omega,?_⟩;(conv=>whnf);refine ⟨i+1,[],[],?_,⟨by omega,fun j h hj=>?_⟩,by omega⟩
           ·((conv=>whnf);repeat (first | exact ⟨⟩ | (refine ⟨by first | rfl | (simp;done) | (simp;omega),?_⟩;conv=>whnf)))
           ·rcases Nat.lt_or_ge j i with h1 | h1
            ·exact hno j h h1
            ·obtain rfl:j=i:=by omega
             exact hgt
      ·have:i=rules.length:=(by simp at hb;omega);subst this;clear hb
       rw [show rules.any (aZ atoms)=false from List.any_eq_false.2 fun r hr=>by
        obtain ⟨j,hj,rfl⟩:=List.mem_iff_getElem.1 hr
        rw [hno j hj hj];simp]
       (repeat (refine gw rfl ?_;conv=>whnf));refine .inl ⟨_,hS hv,.inl rfl,?_⟩;(conv=>whnf);(repeat (refine gw rfl ?_;conv=>whnf));by_cases he:e=0
       ·subst he;rw [show ((0:Int) != 0)=false from rfl,show decide ((0:Int)=0)=true from rfl];(conv=>whnf);(repeat (refine gw rfl ?_;conv=>whnf));refine .inl ⟨_,Tryz.Qy atoms rules hin hn hr hf,.inl rfl,?_⟩;(conv=>whnf);(repeat (refine gw rfl ?_;conv=>whnf));refine .inl ⟨_,hGr,.inl rfl,?_⟩;(conv=>whnf);(repeat (refine gw rfl ?_;conv=>whnf));rw [List.length_map];refine ⟨by omega,?_⟩;(conv=>whnf);refine ⟨by omega,?_⟩;(conv=>whnf);(repeat (refine gw rfl ?_;conv=>whnf));obtain ⟨n,hnn⟩:∃ n,atoms.length=n:=⟨_,rfl⟩
        rw [hnn] at hin hn ⊢;have hGl:(aQ (bg n (aA n rules)) n).length≤n+1:=by
         have:=rH (bg n (aA n rules)) n (n+1) (List.replicate n false) [];unfold aQ;simpa using this
        have hGe:=nO (bg n (aA n rules)) n;have hgl:∀ a,(grp (bg n (aA n rules)) n a).length≤n:=fun a=>by
         have:=List.length_filter_le (dF (bg n (aA n rules)) a) (List.range n);rw [List.length_range] at this;exact this
        generalize hGG:aQ (bg n (aA n rules)) n=G at hGl hGe;have hg64:∀ g∈G,g.length≤64:=fun g hg=>by
         obtain ⟨a,_,rfl⟩:=hGe g hg;have:=hgl a;omega
        have hsz:∀ i,((G.map (bV rules)).take i).sum≤65000000:=fun i=>by
         have h1:=TT (l:=(G.map (bV rules)).take i) (b:=1000000) fun x hx=>by
          obtain ⟨g,hg,rfl⟩:=List.mem_map.1 (List.mem_of_mem_take hx);exact Lh rules g (hg64 g hg) hr
         have h2:((G.map (bV rules)).take i).length*1000000≤65*1000000:=Nat.mul_le_mul_right _ (by rw [List.length_take,List.length_map];omega);omega
        have hsq:=tZ n (aA n rules);refine WP.loop (α:=Nat) (fun i=>⟨[(3,.d (.ref [.list (atoms.map enT),.list (rules.map enG)] 0)),(12,.d (enM (bg n (aA n rules)))),(13,.d (.list (dH G))),(14,.d (.int .i64 ((2+2*n+((G.map (bV rules)).take i).sum:Nat):Int))),(15,.d (.int .i64 i))],[],[]⟩)
         (fun i=>i≤G.length) (fun i=>G.length-i) 0 [] [] ?_ ?_ ?_
        ·rw [show (2:Int)+2*((n:Nat):Int)=((2+2*n+((G.map (bV rules)).take 0).sum:Nat):Int) by simp];((conv=>whnf);repeat (first | exact ⟨⟩ | (refine ⟨by first | rfl | (simp;done) | (simp;omega),?_⟩;conv=>whnf)))
        ·exact Nat.zero_le _
        ·intro i hi;have hszi:=hsz i;(repeat (refine gw rfl ?_;conv=>whnf));rw [show ((dH G).length:Int)=(G.length:Nat) by simp [dH]];(split<;>rename_i hb<;>(try rw [hb])<;>(conv=>whnf))
         ·have hlt:i<G.length:=(by simpa using hb);clear hb;obtain ⟨g,hg⟩:∃ g,G[i]?=some g:=⟨_,List.getElem?_eq_getElem hlt⟩
          have hgm:g∈G:=List.mem_of_getElem? hg;obtain ⟨a,ha,hga⟩:=hGe g hgm;have hg6:=hg64 g hgm;have hag:a∈g:=(by rw [hga];exact cO.2 ⟨ha,by simp [dF]⟩);have hpos:0<g.length:=List.length_pos_of_mem hag;obtain ⟨hg0n,hdep⟩:=WV hin ha hga (List.getElem?_eq_getElem hpos);(repeat (refine gw rfl ?_;conv=>whnf));refine ⟨by omega,_,pF hg,rfl,?_⟩;(conv=>whnf);rw [List.length_map];(repeat (refine gw rfl ?_;conv=>whnf));refine ⟨by omega,_,pF hg,rfl,?_⟩;(conv=>whnf);refine .inl ⟨_,Tryz.XG atoms rules g hg6 hr,.inl rfl,?_⟩;rw [Q8];have hs1:=D9 rules g;have hs2:g.length*rules.length≤64*128:=Nat.mul_le_mul hg6 hr;(conv=>whnf);refine ⟨by omega,?_⟩;(conv=>whnf);(repeat (refine gw rfl ?_;conv=>whnf));have hz:(g.map enN)[((0:Int)).toNat]?=some (.int .i64 ((g[0]:Nat):Int)):=by
           have:=ay (f:=enN) hpos
           simpa [enN] using this
          refine ⟨by omega,_,pF hg,rfl,?_⟩;(conv=>whnf);refine ⟨by omega,_,hz,rfl,?_⟩;(conv=>whnf);refine ⟨by omega,_,hsq.at hg0n,rfl,?_⟩;(conv=>whnf);refine ⟨by omega,_,pF hg,rfl,?_⟩;(conv=>whnf);refine ⟨by omega,_,hz,rfl,?_⟩;(conv=>whnf);refine ⟨by omega,_,hsq.at2 hg0n hg0n,rfl,?_⟩;rw [hdep];(conv=>whnf);have hgi:(G.map (bV rules))[i]'(by rw [List.length_map];exact hlt)=bV rules g:=by
           rw [List.getElem_map];have:=List.getElem?_eq_getElem hlt;rw [hg] at this;rw [← Option.some.inj this]
          have hst:=KD (l:=G.map (bV rules)) (i:=i) (by rw [List.length_map];exact hlt);rw [hgi] at hst;have hmul:g.length*(g.length+fD rules g)≤64*8256:=Nat.mul_le_mul hg6 (by omega);cases hre:xU rules g with
          | true=>
            have hp:bV rules g=g.length*(g.length+fD rules g):=(by unfold bV;rw [hre]);(conv=>whnf);(repeat (refine gw rfl ?_;conv=>whnf));rw [show ((g.length:Nat):Int)*(((g.length:Nat):Int)+((fD rules g:Nat):Int))=((g.length*(g.length+fD rules g):Nat):Int) by rw [Int.natCast_mul,Int.natCast_add]];refine ⟨by omega,?_⟩;(conv=>whnf);(repeat (refine gw rfl ?_;conv=>whnf));refine ⟨by omega,?_⟩;(conv=>whnf);(repeat (refine gw rfl ?_;conv=>whnf));refine ⟨by omega,?_⟩;(conv=>whnf);refine ⟨i+1,[],[],?_,by omega,by omega⟩;rw [hst,hp,← Int.natCast_add,Nat.add_assoc];((conv=>whnf);repeat (first | exact ⟨⟩ | (refine ⟨by first | rfl | (simp;done) | (simp;omega),?_⟩;conv=>whnf)))
          | false=>
            have hp:bV rules g=g.length+fD rules g:=(by unfold bV;rw [hre]);(conv=>whnf);(repeat (refine gw rfl ?_;conv=>whnf));refine ⟨by omega,?_⟩;(conv=>whnf);(repeat (refine gw rfl ?_;conv=>whnf));refine ⟨by omega,?_⟩;(conv=>whnf);refine ⟨i+1,[],[],?_,by omega,by omega⟩;rw [hst,hp,← Int.natCast_add,← Int.natCast_add,Nat.add_assoc];((conv=>whnf);repeat (first | exact ⟨⟩ | (refine ⟨by first | rfl | (simp;done) | (simp;omega),?_⟩;conv=>whnf)))
         ·have:i=G.length:=(by simp at hb;omega);subst this;clear hb;(repeat (refine gw rfl ?_;conv=>whnf));rw [List.take_of_length_le (by rw [List.length_map];omega)];have hsd:2+2*n+(G.map (bV rules)).sum=iT n rules G:=rfl;rw [hsd];rw [show decide (((iT n rules G:Nat):Int)>16384)=decide (16384<iT n rules G) by rw [Bool.eq_iff_iff];simp;omega];cases hbig:decide (16384<iT n rules G) with
          | true=>
            (conv=>whnf);repeat (refine gw rfl ?_;conv=>whnf)
          | false=>
            (conv=>whnf);repeat (refine gw rfl ?_;conv=>whnf)
       ·rw [show (e != 0)=true by simpa using he,decide_eq_false he];(conv=>whnf);repeat (refine gw rfl ?_;conv=>whnf)
theorem small_facts {atoms:List Tm} {rules:List Gr} (h:Own.qj atoms rules=true):atoms.length≤60∧rules.length≤80∧∀ r∈rules,r.2.1.length+r.2.2.length≤12:=by
 unfold Own.qj Own.jk at h;simp only [Bool.and_eq_true,decide_eq_true_eq,List.all_eq_true] at h;exact ⟨by omega,h.1.2,fun r hr=>h.2 r hr⟩
end Go.Proofs.YtdonenoiehdahaaGreat
namespace Go.Own
abbrev Eg:=Str×Str×Bool
def fM (e:Eg):Nat:=match e.2.2 with | true=>1 | false=>0
def iZ (E:List Eg) (f:Str→Nat):Prop:=∀ e∈E,f e.2.1+fM e≤f e.1
noncomputable def qh (E:List Eg):Bool:=@decide (∃ f,iZ E f) (Classical.propDecidable _)
theorem lS {E:List Eg}:qh E=true↔∃ f,iZ E f:=@decide_eq_true_iff _ (Classical.propDecidable _)
theorem iZ.of_sub {E E':List Eg} {f:Str→Nat} (h:iZ E f) (hs:∀ e∈E',e∈E):iZ E' f:=fun e he=>h e (hs e he)
theorem I8 {E E':List Eg} (h:∀ e,e∈E↔e∈E'):qh E=qh E':=by
 rw [Bool.eq_iff_iff,lS,lS];exact ⟨fun ⟨f,hf⟩=>⟨f,hf.of_sub fun e he=>(h e).2 he⟩,fun ⟨f,hf⟩=>⟨f,hf.of_sub fun e he=>(h e).1 he⟩⟩
def low (names:List Str) (f:Str→Nat) (x:Str):Nat:=(names.filter fun y=>decide (f y<f x)).length
theorem filter_le {α:Type} {p q:α→Bool}:∀ {l:List α},(∀ x∈l,p x=true→q x=true)→(l.filter p).length≤(l.filter q).length
 | [],_=>Nat.le_refl _
 | z::l,h=>by
   have:=filter_le (l:=l) fun x hx=>h x (by simp [hx])
   have hz:=h z (by simp);rw [List.filter_cons,List.filter_cons];cases hp:p z<;>cases hq:q z<;>simp [hp,hq] at hz ⊢<;>omega
theorem wX {α:Type} {p q:α→Bool}:∀ {l:List α},(∀ x∈l,p x=true→q x=true)→(∃ x∈l,q x=true∧p x=false)→(l.filter p).length<(l.filter q).length
 | [],_,⟨x,hx,_⟩=>by cases hx
 | y::l,h,⟨x,hx,h1,h2⟩=>by
   have hle:=filter_le (l:=l) fun x hx=>h x (by simp [hx])
   have hy:=h y (by simp);rw [List.filter_cons,List.filter_cons];rcases List.mem_cons.1 hx with rfl | hx
   ·rw [if_pos h1,if_neg (by rw [h2];simp)];simp;omega
   ·have ih:=wX (l:=l) (fun x hx=>h x (by simp [hx])) ⟨x,hx,h1,h2⟩;cases hp:p y<;>cases hq:q y<;>simp [hp,hq] at hy ⊢<;>omega
theorem iZ.low {E:List Eg} {names:List Str} {f:Str→Nat} (h:iZ E f) (ht:∀ e∈E,e.2.1∈names):iZ E (low names f):=fun e he=>by
 have h1:=h e he;unfold fM at h1 ⊢;cases hn:e.2.2 with
 | false=>
   rw [hn] at h1;refine filter_le fun y _ hy=>?_
   simp only [decide_eq_true_eq] at hy ⊢;simp only at h1;omega
 | true=>
   rw [hn] at h1;simp only at h1;refine wX (fun y _ hy=>?_) ⟨e.2.1,ht e he,?_,?_⟩
   ·simp only [decide_eq_true_eq] at hy ⊢;omega
   ·simp only [decide_eq_true_eq];omega
   ·simp
theorem YZ {names:List Str} {f:Str→Nat} {x:Str} (hx:x∈names):low names f x<names.length:=by
 have:(names.filter fun y=>decide (f y<f x)).length<(names.filter fun _=>true).length:=wX (fun _ _ _=>rfl) ⟨x,hx,rfl,by simp⟩;have hl:=List.length_filter_le (fun _:Str=>true) names;unfold low;omega
theorem Gs {E:List Eg} {names:List Str} (hf:∀ e∈E,e.1∈names∧e.2.1∈names) (h:qh E=true):∃ f,iZ E f∧∀ x∈names,f x<names.length:=by
 obtain ⟨f,hs⟩:=lS.1 h;exact ⟨low names f,hs.low fun e he=>(hf e he).2,fun x hx=>YZ hx⟩
def room (k:Nat) (names:List Str) (lv:Str→Nat):Nat:=(names.map fun x=>k-lv x).sum
def raise (lv:Str→Nat) (x:Str) (v:Nat):Str→Nat:=fun y=>if y=x then v else lv y
theorem room_le {k:Nat} {lv lv':Str→Nat}:∀ {names:List Str},(∀ x∈names,lv x≤lv' x)→room k names lv'≤room k names lv
 | [],_=>Nat.le_refl _
 | y::l,h=>by
   have h1:=room_le (k:=k) (names:=l) fun x hx=>h x (by simp [hx])
   have h2:=h y (by simp);unfold room at h1 ⊢;simp only [List.map_cons,List.sum_cons];omega
theorem Qm {k:Nat} {lv:Str→Nat} {x:Str} {v:Nat} (h1:lv x<v) (h2:v≤k):∀ {names:List Str},x∈names→room k names (raise lv x v)<room k names lv
 | y::l,hx=>by
   have hle:room k l (raise lv x v)≤room k l lv:=room_le fun z _=>by unfold raise;split<;>(try subst_vars)<;>omega
   by_cases e:y=x
   ·subst e;unfold room at hle ⊢;simp only [List.map_cons,List.sum_cons];have:raise lv y v y=v:=(by unfold raise;simp);rw [this];omega
   ·have ih:=Qm (k:=k) h1 h2 (names:=l) (by rcases List.mem_cons.1 hx with h | h;exact absurd h.symm e;exact h);unfold room at ih ⊢;simp only [List.map_cons,List.sum_cons];have:raise lv x v y=lv y:=(by unfold raise;rw [if_neg e]);rw [this];omega
end Go.Own
namespace Go.Proofs.YtdonenoiehdahaaGreat
open Go Go.Abs Go.Own
attribute [local irreducible] WP
abbrev Lv:=Str×Int
def enV (x:Lv):D := .agg [.str x.1,.int .i64 x.2]
def ofL (n:Str):List Lv→Int
 | []=>-1
 | x::l=>if x.1=n then x.2 else ofL n l
theorem XD {l:List Lv} {i:Nat} (h:i<l.length):(l.map enV)[((i:Int)).toNat]?=some (.agg [.str l[i].1,.int .i64 l[i].2]):=ay h
theorem Tryz.ZU (l:List Lv) (n:Str) (hl:l.length≤1000000):Pure Tryz.prog 84 [.list (l.map enV),.str n] [.int .i64 (ofL n l)]:=by
 refine Pure.of_wp hT (nt:=_) (c:=_) Tryz.func84 rfl rfl rfl rfl (by kernel_rfl) ?_;intro w0 ok0 β0;repeat (refine gw rfl ?_;conv=>whnf)
 refine WP.loop (α:=Nat) (fun i=>⟨[(0,.d (.list (l.map enV))),(1,.d (.str n)),(5,.d (.int .i64 i))],[],[]⟩) (fun i=>i≤l.length∧ofL n l=ofL n (l.drop i)) (fun i=>l.length-i) 0 [] [] ?_ ?_ ?_
 ·((conv=>whnf);repeat (first | exact ⟨⟩ | (refine ⟨by first | rfl | (simp;done) | (simp;omega),?_⟩;conv=>whnf)))
 ·simp
 ·rintro i ⟨hi,hx⟩;repeat (refine gw rfl ?_;conv=>whnf)
  rw [List.length_map];(split<;>rename_i hb<;>(try rw [hb])<;>(conv=>whnf))
  ·have hlt:i<l.length:=(by simpa using hb);clear hb;rw [List.drop_eq_getElem_cons hlt,ofL] at hx;(repeat (refine gw rfl ?_;conv=>whnf));refine ⟨by omega,_,XD hlt,rfl,?_⟩;(conv=>whnf);(repeat (refine gw rfl ?_;conv=>whnf));by_cases e:l[i].1=n
   ·rw [if_pos e] at hx;rw [show (l[i].1==n)=true by simpa using e];(conv=>whnf);(repeat (refine gw rfl ?_;conv=>whnf));refine ⟨by omega,_,XD hlt,rfl,?_⟩;(conv=>whnf);(repeat (refine gw rfl ?_;conv=>whnf));rw [hx]
   ·rw [if_neg e] at hx;rw [show (l[i].1==n)=false by simpa using e];(conv=>whnf);(repeat (refine gw rfl ?_;conv=>whnf));refine ⟨by omega,?_⟩;(conv=>whnf);refine ⟨i+1,[],[],?_,⟨by omega,hx⟩,by omega⟩;((conv=>whnf);repeat (first | exact ⟨⟩ | (refine ⟨by first | rfl | (simp;done) | (simp;omega),?_⟩;conv=>whnf)))
  ·have:i=l.length:=(by simp at hb;omega);subst this;rw [List.drop_length] at hx;(repeat (refine gw rfl ?_;conv=>whnf));rw [hx];rfl
def xw (s:Str):List Str→Nat
 | []=>0
 | x::l=>if Op.bytesLess x s=true then xw s l+1 else 0
theorem Tz (s x:Str) (l:List Str):xw s (x::l)=if Op.bytesLess x s=true then xw s l+1 else 0:=rfl
theorem Tv {s:Str} {l:List Str} {i:Nat} (hi:i<l.length) (h:xw s l=i+xw s (l.drop i)):(Op.bytesLess l[i] s=true→xw s l=(i+1)+xw s (l.drop (i+1)))∧(Op.bytesLess l[i] s=false→xw s l=i):=by
 rw [List.drop_eq_getElem_cons hi,Tz] at h;constructor
 ·intro hb;rw [if_pos hb] at h;omega
 ·intro hb;rw [hb] at h
  simpa using h
def vK (l:List Str) (s:Str):List Str:=if l[xw s l]?=some s then l else l.take (xw s l)++[s]++l.drop (xw s l)
theorem U7 (l:List Str) (s x:Str):x∈vK l s↔x=s∨x∈l:=by
 unfold vK;split
 ·rename_i h;have hm:s∈l:=List.mem_of_getElem? h;exact ⟨.inr,fun h=>h.elim (fun e=>e ▸ hm) id⟩
 ·simp only [List.mem_append,List.mem_singleton];constructor
  ·rintro ((h | h) | h)
   ·exact .inr (List.mem_of_mem_take h)
   ·exact .inl h
   ·exact .inr (List.mem_of_mem_drop h)
  ·rintro (h | h)
   ·exact .inl (.inr h)
   ·rw [← List.take_append_drop (xw s l) l,List.mem_append] at h;exact h.elim (fun h => .inl (.inl h)) .inr
theorem XA (l:List Str) (s:Str):(vK l s).length≤l.length+1:=by
 unfold vK;split
 ·omega
 ·simp only [List.length_append,List.length_take,List.length_drop,List.length_singleton];omega
theorem Tryz.U6 (l:List Str) (s:Str) (hl:l.length≤1000):Pure Tryz.prog 120 [.list (l.map D.str),.str s] [.list ((vK l s).map D.str)]:=by
 have htk:List.take l.length (l.map D.str)=l.map D.str:=List.take_of_length_le (by simp);have hstr:∀ (l:List Str) (y:D),y∈l.map D.str→y.cells.length=1:=fun l y hy=>by
  obtain ⟨x,_,rfl⟩:=List.mem_map.1 hy;rfl
 refine Pure.of_wp hT (nt:=_) (c:=_) Tryz.func120 rfl rfl rfl rfl (by kernel_rfl) ?_;intro w0 ok0 β0;repeat (refine gw rfl ?_;conv=>whnf)
 refine WP.loop (α:=Nat) (fun i=>⟨[(0,.d (.list (l.map D.str))),(1,.d (.str s)),(5,.d (.int .i64 i))],[],[]⟩) (fun i=>i≤l.length∧xw s l=i+xw s (l.drop i)) (fun i=>l.length-i) 0 [] [] ?_ ?_ ?_
 ·((conv=>whnf);repeat (first | exact ⟨⟩ | (refine ⟨by first | rfl | (simp;done) | (simp;omega),?_⟩;conv=>whnf)))
 ·simp
 ·rintro i ⟨hi,hc⟩;repeat (refine gw rfl ?_;conv=>whnf)
  rw [List.length_map];(split<;>rename_i hb<;>(try rw [hb])<;>(conv=>whnf))
  ·have hlt:i<l.length:=(by simpa using hb);clear hb;have hcd:=Tv hlt hc;refine ⟨by omega,_,ay hlt,rfl,?_⟩;(conv=>whnf);refine W7 ?_ rfl;(conv=>whnf);cases hb:Op.bytesLess l[i] s with
   | true=>
     have:=hcd.1 hb;(conv=>whnf);(repeat (refine gw rfl ?_;conv=>whnf));refine ⟨by omega,?_⟩;(conv=>whnf);refine ⟨i+1,[],[],?_,⟨by omega,this⟩,by omega⟩;((conv=>whnf);repeat (first | exact ⟨⟩ | (refine ⟨by first | rfl | (simp;done) | (simp;omega),?_⟩;conv=>whnf)))
   | false=>
     have hci:=hcd.2 hb;(conv=>whnf);(repeat (refine gw rfl ?_;conv=>whnf));rw [List.length_map,decide_eq_true (show ((i:Nat):Int)<((l.length:Nat):Int) by omega)];(conv=>whnf);refine ⟨by omega,_,ay hlt,rfl,?_⟩;(conv=>whnf);by_cases e:l[i]=s
     ·rw [show (l[i]==s)=true by simpa using e];have hr:vK l s=l:=(by unfold vK;rw [hci,List.getElem?_eq_getElem hlt,if_pos (by rw [e])]);(conv=>whnf);(repeat (refine gw rfl ?_;conv=>whnf));rw [hr]
     ·rw [show (l[i]==s)=false by simpa using e];have hr:vK l s=l.take i++[s]++l.drop i:=(by unfold vK;rw [hci,List.getElem?_eq_getElem hlt,if_neg (fun h=>e (Option.some.inj h))]);(conv=>whnf);(repeat (refine gw rfl ?_;conv=>whnf));refine ⟨by simp only [Option.getD_none,Option.getD_some,List.length_map];omega,hstr l,?_⟩;(conv=>whnf);rw [show List.drop ((none:Option Int).getD 0).toNat (List.take ((some ((i:Nat):Int)).getD ((l.map D.str).length:Nat)).toNat (l.map D.str))=(l.take i).map D.str by simp [List.map_take]];refine ⟨hstr _,?_⟩;(conv=>whnf);refine ⟨by show _*16≤_;simp only [List.length_map,List.length_nil,List.length_take];omega,?_⟩;(conv=>whnf);rw [List.nil_append,show ([]:List D).length+((l.take i).map D.str).length=i by simp only [List.length_map,List.length_take,List.length_nil];omega];refine WP.weak (l':=⟨[(0,.d (.list (l.map D.str))),(1,.d (.str s)),(5,.d (.int .i64 (i:Nat))),(6,.sl 38 1 0 i)],[((38,0),some (.arr 1 ((l.take i).map D.str)))],[38]⟩) [(38,some 38)] [] ?_ ?_
      ·((conv=>whnf);repeat (first | exact ⟨⟩ | (refine ⟨by first | rfl | (simp;done) | (simp;omega),?_⟩;conv=>whnf)))
      (repeat (refine gw rfl ?_;conv=>whnf));refine ⟨rfl,?_⟩;(conv=>whnf);refine ⟨(l.take i).map D.str,by rw [List.drop_zero];exact List.take_of_length_le (by simp only [List.length_map,List.length_take];omega),by simp only [List.length_map,List.length_take];omega,?_⟩;(conv=>whnf);refine ⟨_,rfl,Nat.le_refl _,?_⟩;(conv=>whnf);refine ⟨by show (_+1)*16≤_;simp only [List.length_map,List.length_take];omega,?_⟩;(conv=>whnf);rw [show (List.take [D.str s].length (List.drop 0 [D.str s]))=[D.str s] from rfl];rw [show ((l.take i).map D.str).length+[D.str s].length=i+1 by simp only [List.length_map,List.length_take,List.length_singleton];omega];(repeat (refine gw rfl ?_;conv=>whnf));refine ⟨by simp only [Option.getD_none,Option.getD_some,List.length_map];omega,hstr l,?_⟩;(conv=>whnf);rw [show List.drop ((some ((i:Nat):Int)).getD 0).toNat (List.take ((none:Option Int).getD ((l.map D.str).length:Nat)).toNat (l.map D.str))=(l.drop i).map D.str by simp [List.map_drop,htk]];refine ⟨(l.take i).map D.str++[D.str s],by rw [List.drop_zero];exact List.take_of_length_le (by simp only [List.length_append,List.length_map,List.length_take,List.length_singleton];omega),by simp only [List.length_append,List.length_map,List.length_take,List.length_singleton];omega,?_⟩;(conv=>whnf);refine ⟨hstr _,?_⟩;(conv=>whnf);refine ⟨by show _*16≤_;simp only [List.length_append,List.length_map,List.length_take,List.length_singleton,List.length_drop];omega,?_⟩;(conv=>whnf);(repeat (refine gw rfl ?_;conv=>whnf));refine ⟨(l.take i).map D.str++[D.str s]++(l.drop i).map D.str,by rw [List.drop_zero];exact List.take_of_length_le (by simp only [List.length_append];omega),by simp only [List.length_append];omega,?_⟩;(conv=>whnf);rw [hr];simp
  ·have:i=l.length:=(by simp at hb;omega);subst this;clear hb;rw [List.drop_length] at hc;have hci:xw s l=l.length:=hc;have hr:vK l s=l.take l.length++[s]++l.drop l.length:=(by unfold vK;rw [hci,List.getElem?_eq_none (Nat.le_refl _),if_neg (by simp)]);(repeat (refine gw rfl ?_;conv=>whnf));rw [List.length_map,show decide (((l.length:Nat):Int)<((l.length:Nat):Int))=false from decide_eq_false (by omega)];(conv=>whnf);(repeat (refine gw rfl ?_;conv=>whnf));refine ⟨by simp only [Option.getD_none,Option.getD_some,List.length_map];omega,hstr l,?_⟩;(conv=>whnf);rw [show List.drop ((none:Option Int).getD 0).toNat (List.take ((some ((l.length:Nat):Int)).getD ((l.map D.str).length:Nat)).toNat (l.map D.str))=(l.take l.length).map D.str by simp [htk]];refine ⟨hstr _,?_⟩;(conv=>whnf);refine ⟨by show _*16≤_;simp only [List.length_map,List.length_nil,List.length_take];omega,?_⟩;(conv=>whnf);rw [List.nil_append,show ([]:List D).length+((l.take l.length).map D.str).length=l.length by simp only [List.length_map,List.length_take,List.length_nil];omega];refine WP.weak (l':=⟨[(0,.d (.list (l.map D.str))),(1,.d (.str s)),(5,.d (.int .i64 (l.length:Nat))),(6,.sl 38 1 0 l.length)],[((38,0),some (.arr 1 ((l.take l.length).map D.str)))],[38]⟩) [(38,some 38)] [] ?_ ?_
   ·((conv=>whnf);repeat (first | exact ⟨⟩ | (refine ⟨by first | rfl | (simp;done) | (simp;omega),?_⟩;conv=>whnf)))
   (repeat (refine gw rfl ?_;conv=>whnf));refine ⟨rfl,?_⟩;(conv=>whnf);refine ⟨(l.take l.length).map D.str,by rw [List.drop_zero];exact List.take_of_length_le (by simp only [List.length_map,List.length_take];omega),by simp only [List.length_map,List.length_take];omega,?_⟩;(conv=>whnf);refine ⟨_,rfl,Nat.le_refl _,?_⟩;(conv=>whnf);refine ⟨by show (_+1)*16≤_;simp only [List.length_map,List.length_take];omega,?_⟩;(conv=>whnf);rw [show (List.take [D.str s].length (List.drop 0 [D.str s]))=[D.str s] from rfl];rw [show ((l.take l.length).map D.str).length+[D.str s].length=l.length+1 by simp only [List.length_map,List.length_take,List.length_singleton];omega];(repeat (refine gw rfl ?_;conv=>whnf));refine ⟨by simp only [Option.getD_none,Option.getD_some,List.length_map];omega,hstr l,?_⟩;(conv=>whnf);rw [show List.drop ((some ((l.length:Nat):Int)).getD 0).toNat (List.take ((none:Option Int).getD ((l.map D.str).length:Nat)).toNat (l.map D.str))=(l.drop l.length).map D.str by simp [htk]];refine ⟨(l.take l.length).map D.str++[D.str s],by rw [List.drop_zero];exact List.take_of_length_le (by simp only [List.length_append,List.length_map,List.length_take,List.length_singleton];omega),by simp only [List.length_append,List.length_map,List.length_take,List.length_singleton];omega,?_⟩;(conv=>whnf);refine ⟨hstr _,?_⟩;(conv=>whnf);refine ⟨by show _*16≤_;simp only [List.length_append,List.length_map,List.length_take,List.length_singleton,List.length_drop];omega,?_⟩;(conv=>whnf);(repeat (refine gw rfl ?_;conv=>whnf));refine ⟨(l.take l.length).map D.str++[D.str s]++(l.drop l.length).map D.str,by rw [List.drop_zero];exact List.take_of_length_le (by simp only [List.length_append];omega),by simp only [List.length_append];omega,?_⟩;(conv=>whnf);rw [hr];simp
end Go.Proofs.YtdonenoiehdahaaGreat
namespace Go.Own
def dW (bad:Bool→Nat→Bool):List Eg→(Str→Nat)→Bool→Option ((Str→Nat)×Bool)
 | [],lv,more=>some (lv,more)
 | e::E,lv,more=>
   let need:=lv e.2.1+fM e
   let up:=decide (lv e.1<need)
   match bad up need with
   | true=>none
   | false=>dW bad E (match up with | true=>raise lv e.1 need | false=>lv) (more||up)
def bD (bad:Bool→Nat→Bool) (E:List Eg):Nat→(Str→Nat)→Option (Str→Nat)
 | 0,_=>none
 | f+1,lv=>match dW bad E lv false with
   | none=>none
   | some (lv',true)=>bD bad E f lv'
   | some (lv',false)=>some lv'
theorem Dl (lv:Str→Nat) (x:Str) (v:Nat):raise lv x v x=v:=by unfold raise;simp
theorem Uu {lv:Str→Nat} {x:Str} {v:Nat} (h:lv x≤v) (y:Str):lv y≤raise lv x v y:=by
 unfold raise;split
 ·rename_i e;subst e;exact h
 ·exact Nat.le_refl _
theorem zf {bad:Bool→Nat→Bool}:∀ {E:List Eg} {lv lv':Str→Nat} {m m':Bool},dW bad E lv m=some (lv',m')→(∀ x,lv x≤lv' x)∧(m=true→m'=true)
 | [],lv,lv',m,m',h=>by
   unfold dW at h;cases h;exact ⟨fun _=>Nat.le_refl _,id⟩
 | e::E,lv,lv',m,m',h=>by
   unfold dW at h;simp only at h;split at h
   ·cases h
   ·obtain ⟨h1,h2⟩:=zf h;refine ⟨fun x=>?_,fun hm=>h2 (by rw [hm];rfl)⟩;refine Nat.le_trans ?_ (h1 x);cases hu:decide (lv e.1<lv e.2.1+fM e) with
    | true=>exact Uu (Nat.le_of_lt (of_decide_eq_true hu)) x
    | false=>exact Nat.le_refl _
theorem rQ {bad:Bool→Nat→Bool}:∀ {E:List Eg} {lv lv':Str→Nat},dW bad E lv false=some (lv',false)→lv'=lv∧iZ E lv
 | [],lv,lv',h=>by
   unfold dW at h;cases h;exact ⟨rfl,fun e he=>by cases he⟩
 | e::E,lv,lv',h=>by
   unfold dW at h;simp only at h;split at h
   ·cases h
   ·cases hu:decide (lv e.1<lv e.2.1+fM e) with
    | true=>
      rw [hu] at h;have:=(zf h).2 rfl;cases this
    | false=>
      rw [hu] at h;obtain ⟨h1,h2⟩:=rQ h;refine ⟨h1,fun e' he'=>?_⟩;rcases List.mem_cons.1 he' with rfl | he'
      ·have:=of_decide_eq_false hu;omega
      ·exact h2 e' he'
theorem xR {bad:Bool→Nat→Bool} {names:List Str} {k:Nat} (hbad:∀ u n,bad u n=true→k≤n) {f:Str→Nat} (hk:∀ x∈names,f x<k):∀ {E:List Eg} {lv:Str→Nat} {m:Bool},iZ E f→(∀ e∈E,e.1∈names∧e.2.1∈names)→(∀ x∈names,lv x≤f x) →
  ∃ lv' m',dW bad E lv m=some (lv',m')∧∀ x∈names,lv' x≤f x
 | [],lv,m,_,_,hl=>⟨lv,m,rfl,hl⟩
 | e::E,lv,m,hs,hm,hl=>by
   have h1:=hs e (by simp);obtain ⟨hf,ht⟩:=hm e (by simp);have h2:=hl _ ht;have h3:=hk _ hf;unfold dW;simp only;cases hb:bad (decide (lv e.1<lv e.2.1+fM e)) (lv e.2.1+fM e) with
   | true=>
     have:=hbad _ _ hb;omega
   | false=>
     refine xR hbad hk (fun e' he'=>hs e' (by simp [he'])) (fun e' he'=>hm e' (by simp [he'])) fun x hx=>?_
     cases hu:decide (lv e.1<lv e.2.1+fM e) with
     | true=>
       show raise lv e.1 (lv e.2.1+fM e) x≤f x;unfold raise;split
       ·rename_i ex;subst ex;omega
       ·exact hl x hx
     | false=>exact hl x hx
theorem nG {bad:Bool→Nat→Bool} {names:List Str} {k:Nat} (hok:∀ u n,bad u n=false→u=true→n≤k):∀ {E:List Eg} {lv lv':Str→Nat} {m:Bool},(∀ e∈E,e.1∈names∧e.2.1∈names)→dW bad E lv m=some (lv',true)→m=true∨room k names lv'<room k names lv
 | [],lv,lv',m,_,h=>by
   unfold dW at h;cases h;exact .inl rfl
 | e::E,lv,lv',m,hm,h=>by
   unfold dW at h;simp only at h;split at h
   ·cases h
   ·rename_i hb;cases hu:decide (lv e.1<lv e.2.1+fM e) with
    | true=>
      rw [hu] at h hb;have hn:=hok _ _ hb rfl;have hlt:=Qm (k:=k) (names:=names) (of_decide_eq_true hu) hn (hm e (by simp)).1;have hge:=(zf h).1;have:=room_le (k:=k) (names:=names) fun x _=>hge x
      right;simp only at this;omega
    | false=>
      rw [hu] at h;simp only [Bool.or_false] at h;exact nG hok (fun e' he'=>hm e' (by simp [he'])) h
theorem yu {bad:Bool→Nat→Bool} {names:List Str} {E:List Eg} {k:Nat} (hbad:∀ u n,bad u n=true→names.length≤n) (hok:∀ u n,bad u n=false→u=true→n≤k) (hm:∀ e∈E,e.1∈names∧e.2.1∈names) {F:Nat} (hF:room k names (fun _=>0)<F) :
  (bD bad E F (fun _=>0)).isSome=qh E:=by
 have some_of:∀ (F:Nat) (lv:Str→Nat),(bD bad E F lv).isSome=true→qh E=true:=fun F=>by
  induction F with
  | zero=>intro lv h;cases h
  | succ F ih=>
    intro lv h;unfold bD at h;split at h
    ·cases h
    ·exact ih _ h
    ·rename_i lv' hr;exact lS.2 ⟨lv,(rQ hr).2⟩
 cases hs:qh E with
 | false=>
   cases hr:(bD bad E F (fun _=>0)).isSome with
   | false=>rfl
   | true=>rw [some_of _ _ hr] at hs;cases hs
 | true=>
   obtain ⟨f,h1,h2⟩:=Gs hm hs;have go:∀ (F:Nat) (lv:Str→Nat),(∀ x∈names,lv x≤f x)→room k names lv<F→(bD bad E F lv).isSome=true:=fun F=>by
    induction F with
    | zero=>intro lv _ h;omega
    | succ F ih=>
      intro lv hl hF;obtain ⟨lv',m',hr,hl'⟩:=xR (m:=false) hbad h2 h1 hm hl;unfold bD;rw [hr];cases m' with
      | false=>rfl
      | true=>
        rcases nG hok hm hr with h | h
        ·cases h
        ·exact ih lv' hl' (by omega)
   exact go F _ (fun x _=>Nat.zero_le _) hF
end Go.Own
