/- Walks: the reference's Find and Lists. -/
import Derived.Test.YtdonenoiehdahaaGreatGrYAnd
import Derived.Test.YtdonenoiehdahaaGreatLtJAnd
import Derived.Test.YtdonenoiehdahaaGreatLsLAnd
import Derived.Test.YtdonenoiehdahaaGreatGrOAnd
set_option linter.all false
namespace Go.Proofs.YtdonenoiehdahaaGreat
open Go Go.Abs Go.Own
attribute [local irreducible] WP
theorem Uz {u:Tm} {l:List Tm} {i:Nat} (h:i<l.length):zn u (i:Nat) (l.drop i)=if eqT l[i] u=true then ((i:Nat):Int) else zn u ((i+1:Nat):Int) (l.drop (i+1)):=by
 rw [List.drop_eq_getElem_cons h,zn];split<;>simp
theorem Tryz.W9 (l:List Tm) (u:Tm) (hl:l.length≤1000000) (hok:∀ x∈l,okT x) (hu:okT u) :
  Pure Tryz.prog 94 [.list (l.map enT),tD u.name u.args] [.int .i64 (zn u 0 l)]:=by
 refine Pure.of_wp hT (nt:=_) (c:=_) Tryz.func94 rfl rfl rfl rfl (by kernel_rfl) ?_;intro w0 ok0 β0;repeat (refine gw rfl ?_;conv=>whnf)
 refine WP.loop (α:=Nat) (fun i=>⟨[(0,.d (.list (l.map enT))),(3,.d (.ref (tD u.name u.args).cells 0)),(5,.d (.int .i64 i))],[],[]⟩) (fun i=>i≤l.length∧zn u 0 l=zn u (i:Nat) (l.drop i)) (fun i=>l.length-i) 0 [] [] ?_ ?_ ?_
 ·((conv=>whnf);repeat (first | exact ⟨⟩ | (refine ⟨by first | rfl | (simp;done) | (simp;omega),?_⟩;conv=>whnf)))
 ·exact ⟨Nat.zero_le _,rfl⟩
 ·rintro i ⟨hi,ht⟩;repeat (refine gw rfl ?_;conv=>whnf)
  rw [List.length_map];(split<;>rename_i hb<;>(try rw [hb])<;>(conv=>whnf))
  ·have hlt:i<l.length:=(by simpa using hb);clear hb;rw [Uz hlt] at ht;have hq:=Tryz.I7 l[i] u (hok _ (List.getElem_mem hlt)) hu;(repeat (refine gw rfl ?_;conv=>whnf));refine ⟨by omega,_,dB hlt,rfl,?_⟩;(conv=>whnf);refine .inl ⟨_,hq,.inl rfl,?_⟩;(conv=>whnf);cases hh:eqT l[i] u with
   | true=>
     rw [if_pos hh] at ht;rw [ht];(conv=>whnf);repeat (refine gw rfl ?_;conv=>whnf)
   | false=>
     rw [if_neg (by rw [hh];simp)] at ht;(conv=>whnf);(repeat (refine gw rfl ?_;conv=>whnf));refine ⟨by omega,?_⟩;(conv=>whnf);refine ⟨i+1,[],[],?_,⟨by omega,ht⟩,by omega⟩;((conv=>whnf);repeat (first | exact ⟨⟩ | (refine ⟨by first | rfl | (simp;done) | (simp;omega),?_⟩;conv=>whnf)))
  ·have hie:i=l.length:=(by simp at hb;omega);subst hie;clear hb;rw [List.drop_length] at ht;rw [ht];(repeat (refine gw rfl ?_;conv=>whnf));rfl
theorem Tryz.Zq (atoms:List Tm) (rules:List Gr) (u:Tm) (hl:atoms.length≤1000000) (hok:∀ x∈atoms,okT x) (hu:okT u) :
  Pure Tryz.prog 57 [gD atoms rules,tD u.name u.args] [.int .i64 (zn u 0 atoms)]:=by
 refine Pure.of_wp hT (nt:=_) (c:=_) Tryz.func57 rfl rfl rfl rfl (by kernel_rfl) ?_;intro w0 ok0 β0;repeat (refine gw rfl ?_;conv=>whnf)
 refine .inl ⟨_,Tryz.W9 atoms u hl hok hu,.inl rfl,?_⟩;conv=>whnf
 repeat (refine gw rfl ?_;conv=>whnf)
def Af:Str:=[105,110,105,116]
def Bv (atoms:List Tm) (p:Tm×Nat):List In:=(fK bC (some p.1) atoms).map fun m=>(p.2,m)
end Go.Proofs.YtdonenoiehdahaaGreat
namespace Go.Own
theorem SC (rk:List Int) (k:Nat):(holdL rk k).Pairwise (·<·):=by
 unfold holdL;rw [List.pairwise_map];exact (List.pairwise_lt_range.filter _).imp fun h=>by omega
end Go.Own
namespace Go.Proofs.YtdonenoiehdahaaGreat
open Go Go.Abs Go.Own
attribute [local irreducible] WP
def vT (atoms:List Tm) (hold:List Int) (t:Tm):Bool:=decide (dM (.mk Af [t]) 0 atoms∈hold)&&decide (dM (.mk Af [t]) 0 atoms≥0)
def AO (atoms:List Tm) (hold:List Int) (bases:List Tm):List Int:=(bases.zipIdx.filter fun p=>vT atoms hold p.1).map fun p=>((p.2:Nat):Int)
theorem OV {atoms:List Tm} {hold:List Int} {bases:List Tm} {i:Nat} (h:i<bases.length):((bases.zipIdx.take (i+1)).filter fun p=>vT atoms hold p.1).map (fun p=>((p.2:Nat):Int))=((bases.zipIdx.take i).filter fun p=>vT atoms hold p.1).map (fun p=>((p.2:Nat):Int))++(match vT atoms hold bases[i] with | true=>[((i:Nat):Int)] | false=>[]):=by
 rw [List.take_succ_eq_append_getElem (by rw [List.length_zipIdx];exact h),List.filter_append,List.map_append,List.getElem_zipIdx,Nat.zero_add];cases hb:vT atoms hold bases[i] with
 | true=>rw [List.filter_cons_of_pos (by exact hb)];rfl
 | false=>rw [List.filter_cons_of_neg (by simp [hb])];rfl
theorem Tryz.U9 (atoms bases:List Tm) (rules:List Gr) (hold:List Int) (hn:atoms.length≤64) (hok:∀ x∈atoms,okT x) (hba:∀ x∈bases,okT x) (hbl:bases.length≤1000) (hh:hold.length≤1000) (hasc:hold.Pairwise (·<·))
  (hm:aH Tryz.prog 92 [] [.d (gD atoms rules),.aG] [] [] [.d (.list (hold.map enI)),.d (.int .i64 0)] []) :
  Pure Tryz.prog 48 [gD atoms rules,.list (bases.map enT)] [.list ((AO atoms hold bases).map enI)]:=by
 refine Pure.of_wp hT (nt:=_) (c:=_) Tryz.func48 rfl rfl rfl rfl (by kernel_rfl) ?_;intro w0 ok0 β0;repeat (refine gw rfl ?_;conv=>whnf)
 refine .inr ⟨_,_,_,_,_,_,hm,[],[],rfl,rfl,?_⟩;conv=>whnf
 repeat (refine gw rfl ?_;conv=>whnf)
 refine WP.loop (α:=Nat) (fun i=>⟨[(2,.d (.ref [.list (atoms.map enT),.list (rules.map enG)] 0)),(5,.d (.list (hold.map enI))),(7,.sl 50 1 0 (((bases.zipIdx.take i).filter fun p=>vT atoms hold p.1).map (fun p=>((p.2:Nat):Int))).length),(18,.d (.list (bases.map enT))),(19,.d (.int .i64 bases.length)),(20,.d (.int .i64 i))],
   [((50,0),some (.arr 1 ((((bases.zipIdx.take i).filter fun p=>vT atoms hold p.1).map (fun p=>((p.2:Nat):Int))).map enI)))],[50]⟩)
  (fun i=>i≤bases.length) (fun i=>bases.length-i) 0 [(50,none)] [] ?_ ?_ ?_
 ·rw [List.length_map];((conv=>whnf);repeat (first | exact ⟨⟩ | (refine ⟨by first | rfl | (simp;done) | (simp;omega),?_⟩;conv=>whnf)))
 ·exact Nat.zero_le _
 ·intro i hi;have hsu:=fun h=>OV (atoms:=atoms) (hold:=hold) (bases:=bases) (i:=i) h
  have hSl:(((bases.zipIdx.take i).filter fun p=>vT atoms hold p.1).map (fun p=>((p.2:Nat):Int))).length≤i:=by
   rw [List.length_map];exact Nat.le_trans (List.length_filter_le _ _) (by rw [List.length_take];omega)
  generalize hSe:((bases.zipIdx.take i).filter fun p=>vT atoms hold p.1).map (fun p=>((p.2:Nat):Int))=S at hsu hSl ⊢;repeat (refine gw rfl ?_;conv=>whnf)
  (split<;>rename_i hb<;>(try rw [hb])<;>(conv=>whnf))
  ·have hlt:i<bases.length:=(by simpa using hb);clear hb;specialize hsu hlt;have okb:=hba _ (List.getElem_mem hlt);have hgb:=dB hlt;generalize bases[i]=t at hsu okb hgb;obtain ⟨kb,hbs⟩:=Tryz.bsI hold (dM (.mk Af [t]) 0 atoms) (by omega) hasc;(repeat (refine gw rfl ?_;conv=>whnf));refine ⟨by omega,_,hgb,rfl,?_⟩;(conv=>whnf);refine gw rfl ?_;(conv=>whnf);refine W2 hT hM [27] ?_;(conv=>whnf);refine ⟨rfl,?_⟩;(conv=>whnf);refine ⟨rfl,?_⟩;(conv=>whnf);refine ⟨rfl,?_⟩;(conv=>whnf);rw [show D.agg [D.str t.name,D.list (List.map enT t.args)]=enT t from (bQ t).symm];refine .inl ⟨_,Tryz.find atoms rules (.mk Af [t]) (by omega) hok (aW.2 ⟨by simp [Tm.args],fun x hx=>by simp [Tm.args] at hx;rw [hx];exact okb⟩),.inl rfl,?_⟩;(conv=>whnf);(repeat (refine gw rfl ?_;conv=>whnf));refine .inl ⟨_,hbs,.inl rfl,?_⟩;(conv=>whnf);(repeat (refine gw rfl ?_;conv=>whnf));have hib:∀ b,(decide (dM (.mk Af [t]) 0 atoms∈hold)&&decide (dM (.mk Af [t]) 0 atoms≥0))=b→vT atoms hold t=b:=fun b e=>e
   cases h1:decide (dM (.mk Af [t]) 0 atoms∈hold) with
   | false=>
     rw [hib false (by rw [h1];rfl)] at hsu;(conv=>whnf);(repeat (refine gw rfl ?_;conv=>whnf));refine ⟨by omega,?_⟩;(conv=>whnf);refine ⟨i+1,[(50,some 50)],[],?_,by omega,by omega⟩;rw [hsu,List.append_nil];((conv=>whnf);repeat (first | exact ⟨⟩ | (refine ⟨by first | rfl | (simp;done) | (simp;omega),?_⟩;conv=>whnf)))
   | true=>
     (conv=>whnf);cases h2:decide (dM (.mk Af [t]) 0 atoms≥0) with
     | false=>
       rw [hib false (by rw [h1,h2];rfl)] at hsu;(conv=>whnf);(repeat (refine gw rfl ?_;conv=>whnf));refine ⟨by omega,?_⟩;(conv=>whnf);refine ⟨i+1,[(50,some 50)],[],?_,by omega,by omega⟩;rw [hsu,List.append_nil];((conv=>whnf);repeat (first | exact ⟨⟩ | (refine ⟨by first | rfl | (simp;done) | (simp;omega),?_⟩;conv=>whnf)))
     | true=>
       rw [hib true (by rw [h1,h2];rfl)] at hsu;(conv=>whnf);repeat (refine gw rfl ?_;conv=>whnf)
       (refine ⟨rfl,?_⟩;(conv=>whnf);refine ⟨_,(congrArg (List.take _) List.drop_zero).trans (List.take_of_length_le (by first | (simp;done) | (simp;omega))),by first | (simp;done) | (simp;omega),?_⟩;(conv=>whnf);refine ⟨_,rfl,Nat.le_refl _,?_⟩;(conv=>whnf);refine ⟨by show (_+1)*8≤_;first | (simp;done) | (simp;omega),?_⟩;(conv=>whnf))
       (repeat (refine gw rfl ?_;conv=>whnf));refine ⟨by omega,?_⟩;(conv=>whnf);refine ⟨i+1,[(50,some 44)],[],?_,by omega,by omega⟩;rw [hsu,List.map_append,List.map_singleton,List.length_append,List.length_singleton];((conv=>whnf);repeat (first | exact ⟨⟩ | (refine ⟨by first | rfl | (simp;done) | (simp;omega),?_⟩;conv=>whnf)))
  ·have hie:i=bases.length:=(by simp at hb;omega);subst hie;clear hb hsu;have:AO atoms hold bases=S:=by
    rw [← hSe,List.take_of_length_le (by rw [List.length_zipIdx];exact Nat.le_refl _)];rfl
   rw [this];refine WP.weak (l':=⟨[(7,.d (.list (S.map enI)))],[],[]⟩) [] [50] ?_ ?_
   ·((conv=>whnf);repeat (first | exact ⟨⟩ | (refine ⟨by first | rfl | (simp;done) | (simp;omega),?_⟩;conv=>whnf)));refine ⟨S.map enI,by rw [List.drop_zero];exact List.take_of_length_le (by simp),by simp,rfl,?_⟩;((conv=>whnf);repeat (first | exact ⟨⟩ | (refine ⟨by first | rfl | (simp;done) | (simp;omega),?_⟩;conv=>whnf)))
   repeat (refine gw rfl ?_;conv=>whnf)
theorem Ru {xs:List D} {z:D} {i:Nat} (h:xs.length=i):(xs++List.take [z].length (List.drop 0 [z]))[0+((i:Nat):Int).toNat]?=some z:=by
 rw [Int.toNat_natCast,Nat.zero_add,List.getElem?_append_right (by omega),h,Nat.sub_self];rfl
theorem Rt {xs:List D} {z e:D} {i:Nat} (h:xs.length=i):(xs++List.take [z].length (List.drop 0 [z])).set (0+((i:Nat):Int).toNat) e=xs++[e]:=by
 rw [Int.toNat_natCast,Nat.zero_add,List.set_append_right _ _ (by omega),h,Nat.sub_self];rfl
theorem H9 (atoms:List Tm):∀ (l:List (Tm×Nat)) (c:Cs),(l.foldl (zZ atoms) c).1.2=c.1.2
 | [],c=>rfl
 | p::l,c=>by rw [List.foldl_cons,H9 atoms l];rfl
theorem HY (atoms roles:List Tm):∀ (l:List (In×Nat)) (c:Cs),(l.foldl (zX atoms roles) c).1.2=c.1.2
 | [],c=>rfl
 | p::l,c=>by rw [List.foldl_cons,HY atoms roles l];rfl
theorem sK (atoms roles bases:List Tm) (ins:List In) (c:Cs):(fA atoms roles bases ins c).1.2=c.1.2:=by
 show (gq atoms roles bases ins c).1.2=_;unfold gq BK;rw [HY,H9]
theorem SV {d:List (List Bool)} {n a:Nat} (ha:a<n) (hn:n≤64):(∀ x∈grp d n a,x<n)∧(grp d n a).Pairwise (·<·)∧(grp d n a).length≤64∧grp d n a≠[]:=by
 refine ⟨fun x hx=>(cO.1 hx).1,List.pairwise_lt_range.filter _,Nat.le_trans (List.length_filter_le _ _) (by simp;omega),fun h=>?_⟩;have:a∈grp d n a:=cO.2 ⟨ha,by unfold dF;simp⟩;rw [h] at this;cases this
theorem Aj (str:List Int) (s:Int) (rules:List Gr):∀ (f:Nat) (round:Int) (rk:List Int),(fE str s rules f round rk).length=rk.length
 | 0,_,rk=>rfl
 | f+1,round,rk=>by
   unfold fE;have h:(nI str s rules round rk).1.length=rk.length:=zD str s round rules (rk,false);split
   ·rw [Aj str s rules f,h]
   ·exact h
theorem Dk (n:Nat) (str:List Int) (rules:List Gr) (hn:n≤64):(jF n str rules).length≤64:=by
 unfold jF jm;generalize (sG str).toNat+1=k;have:∀ (l:List Nat) (rk:List Int),(l.foldl (fun rk s=>fE str (s:Nat) (rules.filter (inS str s)) (n+1) 1 rk) rk).length=rk.length:=fun l=>by
  induction l with
  | nil=>intro rk;rfl
  | cons x l ih=>intro rk;rw [List.foldl_cons,ih,Aj]
 rw [this,List.length_replicate];exact hn
def cs0:Cs:=(([(0,0,[]),(1,0,[])],[]),[])
def iM (names:List Tm):List Tm:=names.map fun r => .mk r.name []
def ak (atoms:List Tm):List Tm:=fK eY none atoms
def aU (atoms names:List Tm):List In:=names.zipIdx.flatMap (Bv atoms)
noncomputable def cZ (atoms:List Tm) (rules:List Gr) (c:Cs) (g:List Nat):Cs:=match iF (atoms.getD (g.getD 0 0) (.mk [] [])) with
 | true=>c
 | false=>gV rules g c
noncomputable def Xn (atoms:List Tm) (rules:List Gr) (names:List Tm) (hid:Bool) (lv:Str→Nat) (c:Cs):D:=
 ig c.1.1 (iM names) (ak atoms) (aU atoms names) (AO atoms (holdL (jF atoms.length (fF atoms lv) rules) (jF atoms.length (fF atoms lv) rules).length) (ak atoms)) (nextL atoms c.2 (ak atoms)) (jq atoms c.2 (iM names) (aU atoms names)) ((l9 atoms c.2 (iM names)).map aV) ((rD atoms c.2 (iM names)).map aV) (ofV atoms c.2 dQ []) hid
noncomputable def csN (atoms:List Tm) (rules:List Gr) (names:List Tm) (G:List (List Nat)):Cs:=G.foldl (cZ atoms rules) (fA atoms (iM names) (ak atoms) (aU atoms names) cs0)
set_option maxRecDepth 10000 in
theorem Tryz.MI (atoms:List Tm) (rules:List Gr) (names:List Tm) (hid:Bool) (sz:Int) (hG:Pure Tryz.prog 9 [gD atoms rules,.list (names.map enT),.bool hid] [.int .i64 sz,.int .i64 0])
  (hok:∀ x∈atoms,okT x) (hsh:∀ x∈atoms,shT x) (hv:aK atoms rules=true) (hn:atoms.length≤64) (hr:rules.length≤128) (hf:∀ r∈rules,r.2.1.length+r.2.2.length≤16) (hokn:∀ x∈names,okT x) (hnl:names.length≤1000)
  (lv:Str→Nat) (hlv:dK (nmS atoms) (dX atoms rules [])=some lv) (hs:∀ s∈fF atoms lv,0≤s∧s≤1000) :
  Pure Tryz.prog 14 [gD atoms rules,.list (names.map enT),.bool hid] [Xn atoms rules names hid lv (csN atoms rules names (aQ (bg atoms.length (aA atoms.length rules)) atoms.length)),.int .i64 0]:=by
 have hin:=eP hv;have hH:=Tryz.heads atoms rules hin hn hr;refine Pure.of_wp hT (nt:=_) (c:=_) Tryz.func14 rfl rfl rfl rfl (by kernel_rfl) ?_;intro w0 ok0 β0;repeat (refine gw rfl ?_;conv=>whnf)
 refine .inl ⟨_,hG,.inl rfl,?_⟩;conv=>whnf
 iterate 4 (refine gw rfl ?_;conv=>whnf)
 refine W1 ?_;refine W2 hT hM [38] ?_;conv=>whnf
 refine .inl ⟨_,hH,.inl rfl,?_⟩;conv=>whnf
 refine ⟨rfl,?_⟩;conv=>whnf
 refine WP.weak (l':=⟨[(1,.d (.list (names.map enT))),(2,.d (.bool hid)),(3,.d (.ref [.list (atoms.map enT),.list (rules.map enG)] 0)),(6,.ptr 6 0),(10,.ptr 38 0)],[((38,0),some (.cell (.d (.list (atoms.map enT))))),((38,1),some (.cell (.d (.list (rules.map enG))))),((38,2),some (.cell (.d (.list ((hdM atoms.length rules rules.length).map fun r => .list (r.map enI)))))),((38,3),some (.cell (.sl 61 3 0 ([]:List Gt).length))),((61,0),some (.arr 3 (([]:List Gt).map dN))),((38,4),some (.cell (.map 35))),((35,0),some (.map (mpI ([]:Mi)))),((38,5),some (.cell (.map 36))),((36,0),some (.map (mpI ([]:Mi)))),((6,0),some (.cell (.d (.list [])))),((6,1),some (.cell (.d (.list [])))),((6,2),some (.cell (.d (.list [])))),((6,3),some (.cell (.d (.list [])))),((6,4),some (.cell (.d (.list [])))),((6,5),some (.cell (.d (.list [])))),((6,6),some (.cell (.d (.list [])))),((6,7),some (.cell (.d (.list [])))),((6,8),some (.cell (.d (.list [])))),((6,9),some (.cell (.d (.int .i64 0)))),((6,10),some (.cell (.d (.bool false))))],[38,61,35,36,6]⟩) [(38,some 38),(61,none),(35,some 35),(36,some 36),(6,some 6)] [] ?_ ?_
 ·((conv=>whnf);repeat (first | exact ⟨⟩ | (refine ⟨by first | rfl | (simp;done) | (simp;omega),?_⟩;conv=>whnf)))
 repeat (refine gw rfl ?_;conv=>whnf)
 refine .inr ⟨_,_,_,_,_,_,Tryz.addN [] 0 0 (by simp),[(0,38),(1,61),(2,62)],[62],rfl,rfl,?_⟩;conv=>whnf
 refine ⟨rfl,rfl,?_⟩;conv=>whnf
 repeat (refine gw rfl ?_;conv=>whnf)
 refine .inr ⟨_,_,_,_,_,_,Tryz.addN [(0,0,[])] 1 0 (by simp),[(0,38),(1,62),(2,63)],[63],rfl,rfl,?_⟩;conv=>whnf
 refine ⟨rfl,rfl,?_⟩;conv=>whnf
 repeat (refine gw rfl ?_;conv=>whnf)
 refine ⟨rfl,?_⟩;conv=>whnf
 repeat (refine gw rfl ?_;conv=>whnf)
 refine WP.loop (α:=Nat) (fun i=>⟨[(1,.d (.list (names.map enT))),(2,.d (.bool hid)),(3,.d (.ref [.list (atoms.map enT),.list (rules.map enG)] 0)),(6,.ptr 6 0),(10,.ptr 38 0),(11,.ptr 11 0),(45,.d (.list (names.map enT))),(46,.d (.int .i64 names.length)),(47,.d (.int .i64 i))],
   [((38,0),some (.cell (.d (.list (atoms.map enT))))),((38,1),some (.cell (.d (.list (rules.map enG))))),((38,2),some (.cell (.d (.list ((hdM atoms.length rules rules.length).map fun r => .list (r.map enI)))))),((38,3),some (.cell (.sl 61 3 0 cs0.1.1.length))),((61,0),some (.arr 3 (cs0.1.1.map dN))),((38,4),some (.cell (.map 35))),((35,0),some (.map (mpI cs0.2))),((38,5),some (.cell (.map 36))),((36,0),some (.map (mpI cs0.1.2))),((6,0),some (.cell (.d (.list [])))),((6,1),some (.cell (.d (.list [])))),((6,2),some (.cell (.d (.list [])))),((6,3),some (.cell (.d (.list [])))),((6,4),some (.cell (.d (.list [])))),((6,5),some (.cell (.d (.list [])))),((6,6),some (.cell (.d (.list [])))),((6,7),some (.cell (.d (.list [])))),((6,8),some (.cell (.d (.list [])))),((6,9),some (.cell (.d (.int .i64 0)))),((6,10),some (.cell (.d (.bool false)))),((11,0),some (.cell .aG)),((11,1),some (.cell (.sl 71 2 0 i))),((11,2),some (.cell (.aG))),((11,3),some (.cell (.aG))),((11,4),some (.cell .aG)),((11,5),some (.cell .aG)),((11,6),some (.cell .aG)),((11,7),some (.cell .aG)),((11,8),some (.cell .aG)),((11,9),some (.cell (.d (.int .i64 0)))),((11,10),some (.cell (.d (.bool hid)))),((71,0),some (.arr 2 (((names.take i).map fun r=>Tm.mk r.name []).map enT)))],[38,61,35,36,6,11,71]⟩)
  (fun i=>i≤names.length) (fun i=>names.length-i) 0 [(38,some 38),(61,some 63),(35,some 35),(36,some 36),(6,some 6),(11,some 11),(71,none)] [] ?_ ?_ ?_
 ·rw [List.length_map];((conv=>whnf);repeat (first | exact ⟨⟩ | (refine ⟨by first | rfl | (simp;done) | (simp;omega),?_⟩;conv=>whnf)))
 ·exact Nat.zero_le _
 ·intro i hi;have hsu:=fun (h:i<names.length)=>List.take_succ_eq_append_getElem h
  repeat (refine gw rfl ?_;conv=>whnf)
  (split<;>rename_i hb<;>(try rw [hb])<;>(conv=>whnf))
  ·have hlt:i<names.length:=(by simpa using hb);clear hb;specialize hsu hlt;(repeat (refine gw rfl ?_;conv=>whnf));refine ⟨by omega,_,dB hlt,rfl,?_⟩;(conv=>whnf);(repeat (refine gw rfl ?_;conv=>whnf));refine ⟨rfl,?_⟩;conv=>whnf
   (refine ⟨rfl,?_⟩;(conv=>whnf);refine ⟨_,(congrArg (List.take _) List.drop_zero).trans (List.take_of_length_le (by first | (simp;done) | (simp;omega))),by first | (simp;done) | (simp;omega),?_⟩;(conv=>whnf);refine ⟨_,rfl,Nat.le_refl _,?_⟩;(conv=>whnf);refine ⟨by show (_+1)*40≤_;first | (simp;done) | (simp;omega),?_⟩;(conv=>whnf))
   refine ⟨⟨by omega,by first | (simp;done) | (simp;omega)⟩,?_⟩;(conv=>whnf);have hxl:(((names.take i).map fun r=>Tm.mk r.name []).map enT).length=i:=(by simp;omega);refine ⟨rfl,_,Ru hxl,.inl ⟨rfl,rfl,?_⟩⟩;rw [Rt hxl];(conv=>whnf);(repeat (refine gw rfl ?_;conv=>whnf));refine ⟨by omega,?_⟩;(conv=>whnf);refine ⟨i+1,[(38,some 38),(61,some 61),(35,some 35),(36,some 36),(6,some 6),(11,some 11),(71,some 58)],[],?_,by omega,by omega⟩
   rw [show (((names.take (i+1)).map fun r=>Tm.mk r.name []).map enT)=(((names.take i).map fun r=>Tm.mk r.name []).map enT)++[D.agg [.str names[i].name,.list []]] from by
    rw [hsu,List.map_append,List.map_append]
    rfl]
   ((conv=>whnf);repeat (first | exact ⟨⟩ | (refine ⟨by first | rfl | (simp;done) | (simp;omega),?_⟩;conv=>whnf)))
  ·have hie:i=names.length:=(by simp at hb;omega);subst hie;clear hb hsu;rw [List.take_length];have hsec:=Tryz.second atoms rules eY none (by omega) hok hsh (fun r e=>by cases e);have hbl:=lV (name:=eY) (role:=none) (l:=atoms);refine WP.weak (l':=⟨[(1,.d (.list (names.map enT))),(2,.d (.bool hid)),(3,.d (.ref [.list (atoms.map enT),.list (rules.map enG)] 0)),(6,.ptr 6 0),(10,.ptr 38 0),(11,.ptr 11 0)],[((38,0),some (.cell (.d (.list (atoms.map enT))))),((38,1),some (.cell (.d (.list (rules.map enG))))),((38,2),some (.cell (.d (.list ((hdM atoms.length rules rules.length).map fun r => .list (r.map enI)))))),((38,3),some (.cell (.sl 61 3 0 cs0.1.1.length))),((61,0),some (.arr 3 (cs0.1.1.map dN))),((38,4),some (.cell (.map 35))),((35,0),some (.map (mpI cs0.2))),((38,5),some (.cell (.map 36))),((36,0),some (.map (mpI cs0.1.2))),((6,0),some (.cell (.d (.list [])))),((6,1),some (.cell (.d (.list [])))),((6,2),some (.cell (.d (.list [])))),((6,3),some (.cell (.d (.list [])))),((6,4),some (.cell (.d (.list [])))),((6,5),some (.cell (.d (.list [])))),((6,6),some (.cell (.d (.list [])))),((6,7),some (.cell (.d (.list [])))),((6,8),some (.cell (.d (.list [])))),((6,9),some (.cell (.d (.int .i64 0)))),((6,10),some (.cell (.d (.bool false)))),((11,0),some (.cell .aG)),((11,1),some (.cell (.d (.list ((iM names).map enT))))),((11,2),some (.cell (.aG))),((11,3),some (.cell (.aG))),((11,4),some (.cell .aG)),((11,5),some (.cell .aG)),((11,6),some (.cell .aG)),((11,7),some (.cell .aG)),((11,8),some (.cell .aG)),((11,9),some (.cell (.d (.int .i64 0)))),((11,10),some (.cell (.d (.bool hid))))],[38,61,35,36,6,11]⟩) [(38,some 38),(61,some 61),(35,some 35),(36,some 36),(6,some 6),(11,some 11)] [71] ?_ ?_
   ·((conv=>whnf);repeat (first | exact ⟨⟩ | (refine ⟨by first | rfl | (simp;done) | (simp;omega),?_⟩;conv=>whnf)));refine ⟨(iM names).map enT,by rw [List.drop_zero];exact List.take_of_length_le (by simp [iM]),by simp [iM],rfl,?_⟩;((conv=>whnf);repeat (first | exact ⟨⟩ | (refine ⟨by first | rfl | (simp;done) | (simp;omega),?_⟩;conv=>whnf)))
   (repeat (refine gw rfl ?_;conv=>whnf));refine .inl ⟨_,hsec,.inl rfl,?_⟩;(conv=>whnf);repeat (refine gw rfl ?_;conv=>whnf)
   refine WP.loop (α:=Nat) (fun i=>⟨[(1,.d (.list (names.map enT))),(2,.d (.bool hid)),(3,.d (.ref [.list (atoms.map enT),.list (rules.map enG)] 0)),(6,.ptr 6 0),(10,.ptr 38 0),(11,.ptr 11 0),(63,.d (.list ((ak atoms).map enT))),(64,.d (.int .i64 (ak atoms).length)),(65,.d (.int .i64 i))],
     [((38,0),some (.cell (.d (.list (atoms.map enT))))),((38,1),some (.cell (.d (.list (rules.map enG))))),((38,2),some (.cell (.d (.list ((hdM atoms.length rules rules.length).map fun r => .list (r.map enI)))))),((38,3),some (.cell (.sl 61 3 0 cs0.1.1.length))),((61,0),some (.arr 3 (cs0.1.1.map dN))),((38,4),some (.cell (.map 35))),((35,0),some (.map (mpI cs0.2))),((38,5),some (.cell (.map 36))),((36,0),some (.map (mpI cs0.1.2))),((6,0),some (.cell (.d (.list [])))),((6,1),some (.cell (.d (.list [])))),((6,2),some (.cell (.d (.list [])))),((6,3),some (.cell (.d (.list [])))),((6,4),some (.cell (.d (.list [])))),((6,5),some (.cell (.d (.list [])))),((6,6),some (.cell (.d (.list [])))),((6,7),some (.cell (.d (.list [])))),((6,8),some (.cell (.d (.list [])))),((6,9),some (.cell (.d (.int .i64 0)))),((6,10),some (.cell (.d (.bool false)))),((11,0),some (.cell .aG)),((11,1),some (.cell (.d (.list ((iM names).map enT))))),((11,2),some (.cell (.sl 72 2 0 i))),((11,3),some (.cell (.aG))),((11,4),some (.cell .aG)),((11,5),some (.cell .aG)),((11,6),some (.cell .aG)),((11,7),some (.cell .aG)),((11,8),some (.cell .aG)),((11,9),some (.cell (.d (.int .i64 0)))),((11,10),some (.cell (.d (.bool hid)))),((72,0),some (.arr 2 (((ak atoms).take i).map enT)))],[38,61,35,36,6,11,72]⟩)
    (fun i=>i≤(ak atoms).length) (fun i=>(ak atoms).length-i) 0 [(38,some 38),(61,some 61),(35,some 35),(36,some 36),(6,some 6),(11,some 11),(72,none)] [] ?_ ?_ ?_
   ·rw [List.length_map];((conv=>whnf);repeat (first | exact ⟨⟩ | (refine ⟨by first | rfl | (simp;done) | (simp;omega),?_⟩;conv=>whnf)))
   ·exact Nat.zero_le _
   ·intro i hi;have hbl':(ak atoms).length≤atoms.length:=hbl;have hsu:=fun (h:i<(ak atoms).length)=>List.take_succ_eq_append_getElem h
    have hgt:=fun (h:i<(ak atoms).length)=>dB h
    generalize hBe:ak atoms=B at hi hsu hgt hbl' ⊢;(repeat (refine gw rfl ?_;conv=>whnf));(split<;>rename_i hb<;>(try rw [hb])<;>(conv=>whnf))
    ·have hlt:i<B.length:=(by simpa using hb);clear hb;specialize hsu hlt;(repeat (refine gw rfl ?_;conv=>whnf));refine ⟨by omega,_,hgt hlt,rfl,?_⟩;(conv=>whnf);repeat (refine gw rfl ?_;conv=>whnf)
     (refine ⟨rfl,?_⟩;(conv=>whnf);refine ⟨_,(congrArg (List.take _) List.drop_zero).trans (List.take_of_length_le (by first | (simp;done) | (simp;omega))),by first | (simp;done) | (simp;omega),?_⟩;(conv=>whnf);refine ⟨_,rfl,Nat.le_refl _,?_⟩;(conv=>whnf);refine ⟨by show (_+1)*40≤_;first | (simp;done) | (simp;omega),?_⟩;(conv=>whnf))
     have hxl:((B.take i).map enT).length=i:=(by simp;omega);refine ⟨⟨by omega,by first | (simp;done) | (simp;omega)⟩,?_⟩;(conv=>whnf);refine ⟨rfl,_,Ru hxl,.inl ⟨rfl,rfl,?_⟩⟩;rw [Rt hxl];(conv=>whnf);(repeat (refine gw rfl ?_;conv=>whnf));refine ⟨by omega,?_⟩;(conv=>whnf);refine ⟨i+1,[(38,some 38),(61,some 61),(35,some 35),(36,some 36),(6,some 6),(11,some 11),(72,some 74)],[],?_,by omega,by omega⟩
     rw [show ((B.take (i+1)).map enT)=((B.take i).map enT)++[D.agg [.str B[i].name,.list (B[i].args.map enT)]] from by
      rw [hsu,List.map_append];congr 1;show [enT B[i]]=_
      rw [bQ];rfl]
     ((conv=>whnf);repeat (first | exact ⟨⟩ | (refine ⟨by first | rfl | (simp;done) | (simp;omega),?_⟩;conv=>whnf)))
    ·have hie:i=B.length:=(by simp at hb;omega);subst hie;clear hb hsu;rw [List.take_length];refine WP.weak (l':=⟨[(1,.d (.list (names.map enT))),(2,.d (.bool hid)),(3,.d (.ref [.list (atoms.map enT),.list (rules.map enG)] 0)),(6,.ptr 6 0),(10,.ptr 38 0),(11,.ptr 11 0)],[((38,0),some (.cell (.d (.list (atoms.map enT))))),((38,1),some (.cell (.d (.list (rules.map enG))))),((38,2),some (.cell (.d (.list ((hdM atoms.length rules rules.length).map fun r => .list (r.map enI)))))),((38,3),some (.cell (.sl 61 3 0 cs0.1.1.length))),((61,0),some (.arr 3 (cs0.1.1.map dN))),((38,4),some (.cell (.map 35))),((35,0),some (.map (mpI cs0.2))),((38,5),some (.cell (.map 36))),((36,0),some (.map (mpI cs0.1.2))),((6,0),some (.cell (.d (.list [])))),((6,1),some (.cell (.d (.list [])))),((6,2),some (.cell (.d (.list [])))),((6,3),some (.cell (.d (.list [])))),((6,4),some (.cell (.d (.list [])))),((6,5),some (.cell (.d (.list [])))),((6,6),some (.cell (.d (.list [])))),((6,7),some (.cell (.d (.list [])))),((6,8),some (.cell (.d (.list [])))),((6,9),some (.cell (.d (.int .i64 0)))),((6,10),some (.cell (.d (.bool false)))),((11,0),some (.cell .aG)),((11,1),some (.cell (.d (.list ((iM names).map enT))))),((11,2),some (.cell (.d (.list (B.map enT))))),((11,3),some (.cell (.aG))),((11,4),some (.cell .aG)),((11,5),some (.cell .aG)),((11,6),some (.cell .aG)),((11,7),some (.cell .aG)),((11,8),some (.cell .aG)),((11,9),some (.cell (.d (.int .i64 0)))),((11,10),some (.cell (.d (.bool hid))))],[38,61,35,36,6,11]⟩) [(38,some 38),(61,some 61),(35,some 35),(36,some 36),(6,some 6),(11,some 11)] [72] ?_ ?_
     ·((conv=>whnf);repeat (first | exact ⟨⟩ | (refine ⟨by first | rfl | (simp;done) | (simp;omega),?_⟩;conv=>whnf)));refine ⟨B.map enT,by rw [List.drop_zero];exact List.take_of_length_le (by simp),by simp,rfl,?_⟩;((conv=>whnf);repeat (first | exact ⟨⟩ | (refine ⟨by first | rfl | (simp;done) | (simp;omega),?_⟩;conv=>whnf)))
     repeat (refine gw rfl ?_;conv=>whnf)
     refine WP.loop (α:=Nat) (fun i=>⟨[(1,.d (.list (names.map enT))),(2,.d (.bool hid)),(3,.d (.ref [.list (atoms.map enT),.list (rules.map enG)] 0)),(6,.ptr 6 0),(10,.ptr 38 0),(11,.ptr 11 0),(78,.d (.list (names.map enT))),(79,.d (.int .i64 names.length)),(80,.d (.int .i64 i))],
       [((38,0),some (.cell (.d (.list (atoms.map enT))))),((38,1),some (.cell (.d (.list (rules.map enG))))),((38,2),some (.cell (.d (.list ((hdM atoms.length rules rules.length).map fun r => .list (r.map enI)))))),((38,3),some (.cell (.sl 61 3 0 cs0.1.1.length))),((61,0),some (.arr 3 (cs0.1.1.map dN))),((38,4),some (.cell (.map 35))),((35,0),some (.map (mpI cs0.2))),((38,5),some (.cell (.map 36))),((36,0),some (.map (mpI cs0.1.2))),((6,0),some (.cell (.d (.list [])))),((6,1),some (.cell (.d (.list [])))),((6,2),some (.cell (.d (.list [])))),((6,3),some (.cell (.d (.list [])))),((6,4),some (.cell (.d (.list [])))),((6,5),some (.cell (.d (.list [])))),((6,6),some (.cell (.d (.list [])))),((6,7),some (.cell (.d (.list [])))),((6,8),some (.cell (.d (.list [])))),((6,9),some (.cell (.d (.int .i64 0)))),((6,10),some (.cell (.d (.bool false)))),((11,0),some (.cell .aG)),((11,1),some (.cell (.d (.list ((iM names).map enT))))),((11,2),some (.cell (.d (.list (B.map enT))))),((11,3),some (.cell (.sl 73 3 0 ((names.zipIdx.take i).flatMap (Bv atoms)).length))),((11,4),some (.cell .aG)),((11,5),some (.cell .aG)),((11,6),some (.cell .aG)),((11,7),some (.cell .aG)),((11,8),some (.cell .aG)),((11,9),some (.cell (.d (.int .i64 0)))),((11,10),some (.cell (.d (.bool hid)))),((73,0),some (.arr 3 (((names.zipIdx.take i).flatMap (Bv atoms)).map iq)))],[38,61,35,36,6,11,73]⟩)
      (fun i=>i≤names.length∧((names.zipIdx.take i).flatMap (Bv atoms)).length≤64*i) (fun i=>names.length-i) 0 [(38,some 38),(61,some 61),(35,some 35),(36,some 36),(6,some 6),(11,some 11),(73,none)] [] ?_ ?_ ?_
     ·rw [List.length_map];((conv=>whnf);repeat (first | exact ⟨⟩ | (refine ⟨by first | rfl | (simp;done) | (simp;omega),?_⟩;conv=>whnf)))
     ·exact ⟨Nat.zero_le _,Nat.zero_le _⟩
     ·rintro i ⟨hi,hIl⟩;have hIs:=fun (h:i<names.length)=>jy (Bv atoms) names.zipIdx (i:=i) (by rw [List.length_zipIdx];exact h)
      generalize hIe:((names.zipIdx.take i).flatMap (Bv atoms))=Ii at hIl hIs ⊢;(repeat (refine gw rfl ?_;conv=>whnf));(split<;>rename_i hb<;>(try rw [hb])<;>(conv=>whnf))
      ·have hlt:i<names.length:=(by simpa using hb);clear hb;specialize hIs hlt;rw [List.getElem_zipIdx,Nat.zero_add] at hIs;have okr:=hokn _ (List.getElem_mem hlt);have hgr:=dB hlt;generalize names[i]=r at hIs okr hgr;have hsec2:=Tryz.second atoms rules bC (some r) (by omega) hok hsh (fun r' e=>by cases e;exact okr);have hsl2:=lV (name:=bC) (role:=some r) (l:=atoms);have hIr:Bv atoms (r,i)=(fK bC (some r) atoms).map fun m=>(i,m):=rfl
       rw [hIr] at hIs;(repeat (refine gw rfl ?_;conv=>whnf));refine ⟨by omega,_,hgr,rfl,?_⟩;(conv=>whnf);refine .inl ⟨_,hsec2,.inl rfl,?_⟩;(conv=>whnf);(repeat (refine gw rfl ?_;conv=>whnf));generalize fK bC (some r) atoms=sd at hsl2 hIs hIr
       refine WP.loop (α:=Nat) (fun k=>⟨[(1,.d (.list (names.map enT))),(2,.d (.bool hid)),(3,.d (.ref [.list (atoms.map enT),.list (rules.map enG)] 0)),(6,.ptr 6 0),(10,.ptr 38 0),(11,.ptr 11 0),(16,.d (.int .i64 i)),(78,.d (.list (names.map enT))),(79,.d (.int .i64 names.length)),(80,.d (.int .i64 i)),(87,.d (.list (sd.map enT))),(88,.d (.int .i64 sd.length)),(89,.d (.int .i64 k))],
         [((38,0),some (.cell (.d (.list (atoms.map enT))))),((38,1),some (.cell (.d (.list (rules.map enG))))),((38,2),some (.cell (.d (.list ((hdM atoms.length rules rules.length).map fun r => .list (r.map enI)))))),((38,3),some (.cell (.sl 61 3 0 cs0.1.1.length))),((61,0),some (.arr 3 (cs0.1.1.map dN))),((38,4),some (.cell (.map 35))),((35,0),some (.map (mpI cs0.2))),((38,5),some (.cell (.map 36))),((36,0),some (.map (mpI cs0.1.2))),((6,0),some (.cell (.d (.list [])))),((6,1),some (.cell (.d (.list [])))),((6,2),some (.cell (.d (.list [])))),((6,3),some (.cell (.d (.list [])))),((6,4),some (.cell (.d (.list [])))),((6,5),some (.cell (.d (.list [])))),((6,6),some (.cell (.d (.list [])))),((6,7),some (.cell (.d (.list [])))),((6,8),some (.cell (.d (.list [])))),((6,9),some (.cell (.d (.int .i64 0)))),((6,10),some (.cell (.d (.bool false)))),((11,0),some (.cell .aG)),((11,1),some (.cell (.d (.list ((iM names).map enT))))),((11,2),some (.cell (.d (.list (B.map enT))))),((11,3),some (.cell (.sl 73 3 0 (Ii.length+k)))),((11,4),some (.cell .aG)),((11,5),some (.cell .aG)),((11,6),some (.cell .aG)),((11,7),some (.cell .aG)),((11,8),some (.cell .aG)),((11,9),some (.cell (.d (.int .i64 0)))),((11,10),some (.cell (.d (.bool hid)))),((73,0),some (.arr 3 ((Ii++(sd.take k).map fun m=>(i,m)).map iq)))],[38,61,35,36,6,11,73]⟩)
        (fun k=>k≤sd.length) (fun k=>sd.length-k) 0 [(38,some 38),(61,some 61),(35,some 35),(36,some 36),(6,some 6),(11,some 11),(73,some 73)] [] ?_ ?_ ?_
       ·rw [List.length_map,List.take_zero,List.map_nil,List.append_nil];((conv=>whnf);repeat (first | exact ⟨⟩ | (refine ⟨by first | rfl | (simp;done) | (simp;omega),?_⟩;conv=>whnf)))
       ·exact Nat.zero_le _
       ·intro k hk;(repeat (refine gw rfl ?_;conv=>whnf));(split<;>rename_i hb<;>(try rw [hb])<;>(conv=>whnf))
        ·have hlk:k<sd.length:=(by simpa using hb);clear hb;have hsu2:=List.take_succ_eq_append_getElem hlk;have hgk:=dB hlk;generalize sd[k]=m at hsu2 hgk;(repeat (refine gw rfl ?_;conv=>whnf));refine ⟨by omega,_,hgk,rfl,?_⟩;(conv=>whnf);(repeat (refine gw rfl ?_;conv=>whnf));refine ⟨rfl,?_⟩;conv=>whnf
         (refine ⟨rfl,?_⟩;(conv=>whnf);refine ⟨_,(congrArg (List.take _) List.drop_zero).trans (List.take_of_length_le (by first | (simp;done) | (simp;omega))),by first | (simp;done) | (simp;omega),?_⟩;(conv=>whnf);refine ⟨_,rfl,Nat.le_refl _,?_⟩;(conv=>whnf);refine ⟨by show (_+1)*48≤_;first | (simp;done) | (simp;omega),?_⟩;(conv=>whnf))
         (repeat (refine gw rfl ?_;conv=>whnf));refine ⟨by omega,?_⟩;(conv=>whnf);refine ⟨k+1,[(38,some 38),(61,some 61),(35,some 35),(36,some 36),(6,some 6),(11,some 11),(73,some 99)],[],?_,by omega,by omega⟩
         rw [show (Ii++(sd.take (k+1)).map fun m=>(i,m)).map iq=(Ii++(sd.take k).map fun m=>(i,m)).map iq++[D.agg [.int .i64 (i:Nat),.str m.name,.list (m.args.map enT)]] from by
          rw [hsu2];simp only [List.map_append,List.append_assoc,List.map_cons,List.map_nil];rfl]
         ((conv=>whnf);repeat (first | exact ⟨⟩ | (refine ⟨by first | rfl | (simp;done) | (simp;omega),?_⟩;conv=>whnf)))
        ·have hke:k=sd.length:=(by simp at hb;omega);subst hke;clear hb;rw [List.take_length,← hIs];(repeat (refine gw rfl ?_;conv=>whnf));refine ⟨by omega,?_⟩;(conv=>whnf);have hil:(Ii++sd.map fun m=>(i,m)).length=Ii.length+sd.length:=(by simp);refine ⟨i+1,[(38,some 38),(61,some 61),(35,some 35),(36,some 36),(6,some 6),(11,some 11),(73,some 73)],[],?_,⟨by omega,by rw [hIs,hil];omega⟩,by omega⟩;rw [hIs,hil];((conv=>whnf);repeat (first | exact ⟨⟩ | (refine ⟨by first | rfl | (simp;done) | (simp;omega),?_⟩;conv=>whnf)))
      ·have hie:i=names.length:=(by simp at hb;omega);subst hie;clear hb hIs;rw [List.take_of_length_le (by rw [List.length_zipIdx];exact Nat.le_refl _)] at hIe;have hI:aU atoms names=Ii:=hIe;refine WP.weak (l':=⟨[(1,.d (.list (names.map enT))),(2,.d (.bool hid)),(3,.d (.ref [.list (atoms.map enT),.list (rules.map enG)] 0)),(6,.ptr 6 0),(10,.ptr 38 0),(11,.ptr 11 0)],[((38,0),some (.cell (.d (.list (atoms.map enT))))),((38,1),some (.cell (.d (.list (rules.map enG))))),((38,2),some (.cell (.d (.list ((hdM atoms.length rules rules.length).map fun r => .list (r.map enI)))))),((38,3),some (.cell (.sl 61 3 0 cs0.1.1.length))),((61,0),some (.arr 3 (cs0.1.1.map dN))),((38,4),some (.cell (.map 35))),((35,0),some (.map (mpI cs0.2))),((38,5),some (.cell (.map 36))),((36,0),some (.map (mpI cs0.1.2))),((6,0),some (.cell (.d (.list [])))),((6,1),some (.cell (.d (.list [])))),((6,2),some (.cell (.d (.list [])))),((6,3),some (.cell (.d (.list [])))),((6,4),some (.cell (.d (.list [])))),((6,5),some (.cell (.d (.list [])))),((6,6),some (.cell (.d (.list [])))),((6,7),some (.cell (.d (.list [])))),((6,8),some (.cell (.d (.list [])))),((6,9),some (.cell (.d (.int .i64 0)))),((6,10),some (.cell (.d (.bool false)))),((11,0),some (.cell .aG)),((11,1),some (.cell (.d (.list ((iM names).map enT))))),((11,2),some (.cell (.d (.list (B.map enT))))),((11,3),some (.cell (.d (.list (Ii.map iq))))),((11,4),some (.cell .aG)),((11,5),some (.cell .aG)),((11,6),some (.cell .aG)),((11,7),some (.cell .aG)),((11,8),some (.cell .aG)),((11,9),some (.cell (.d (.int .i64 0)))),((11,10),some (.cell (.d (.bool hid))))],[38,61,35,36,6,11]⟩) [(38,some 38),(61,some 61),(35,some 35),(36,some 36),(6,some 6),(11,some 11)] [73] ?_ ?_
       ·((conv=>whnf);repeat (first | exact ⟨⟩ | (refine ⟨by first | rfl | (simp;done) | (simp;omega),?_⟩;conv=>whnf)));refine ⟨Ii.map iq,by rw [List.drop_zero];exact List.take_of_length_le (by simp),by simp,rfl,?_⟩;((conv=>whnf);repeat (first | exact ⟨⟩ | (refine ⟨by first | rfl | (simp;done) | (simp;omega),?_⟩;conv=>whnf)))
       have hro:∀ x∈iM names,okT x:=fun x hx=>by
        obtain ⟨y,_,rfl⟩:=List.mem_map.1 hx;exact aW.2 ⟨by simp [Tm.args],fun z hz=>by cases hz⟩
       have hba:∀ x∈B,okT x:=fun x hx=>by
        rw [← hBe] at hx;obtain ⟨y,hy,hxy⟩:=jX hx;exact (aW.1 (hok y hy)).2 x hxy
       have hin2:∀ x∈Ii,okT x.2∧x.1<(iM names).length:=fun x hx=>by
        rw [← hIe] at hx;obtain ⟨p,hp,hx⟩:=List.mem_flatMap.1 hx;obtain ⟨m,hm,rfl⟩:=List.mem_map.1 hx;obtain ⟨y,hy,hxy⟩:=jX hm;have hpl:=List.snd_lt_of_mem_zipIdx hp;exact ⟨(aW.1 (hok y hy)).2 m hxy,by unfold iM;rw [List.length_map];simpa using hpl⟩
       have hIl':Ii.length≤64*names.length:=hIl;(repeat (refine gw rfl ?_;conv=>whnf));refine .inr ⟨_,_,_,_,_,_,Tryz.XB atoms (iM names) B Ii rules cs0.1.1 cs0.2 cs0.1.2 hid hn hok hro hba hin2 (by omega) (by omega) (by simp [cs0]),[(0,38),(1,61),(2,35),(4,62)],[62],rfl,rfl,?_⟩;(conv=>whnf);refine ⟨rfl,rfl,rfl,rfl,rfl,rfl,?_⟩;(conv=>whnf);(repeat (refine gw rfl ?_;conv=>whnf));refine .inl ⟨_,Tryz.groups atoms rules hok hv hn hr hf,.inl rfl,?_⟩;(conv=>whnf);(repeat (refine gw rfl ?_;conv=>whnf));have hGe:=nO (bg atoms.length (aA atoms.length rules)) atoms.length;have hGl:=rH (bg atoms.length (aA atoms.length rules)) atoms.length;generalize hGd:aQ (bg atoms.length (aA atoms.length rules)) atoms.length=G at hGe ⊢;have hGlen:G.length≤100:=by
        rw [← hGd];exact Nat.le_trans (rH _ _ _ _ _) (by simp;omega)
       have hgrp:∀ g∈G,(∀ x∈g,x<atoms.length)∧g.Pairwise (·<·)∧g.length≤64∧g≠[]:=fun g hg=>by
        obtain ⟨a,ha,rfl⟩:=hGe g hg;exact SV ha hn
       have hc0:(fA atoms (iM names) B Ii cs0).1.1.length≤100000:=by
        rw [AB];show 2+_+_≤_;omega
       have hn1:=sK atoms (iM names) B Ii cs0;generalize hc1:fA atoms (iM names) B Ii cs0=c1 at hc0 hn1;rw [← hn1]
       refine WP.loop (α:=Nat) (fun i=>⟨[(1,.d (.list (names.map enT))),(2,.d (.bool hid)),(3,.d (.ref [.list (atoms.map enT),.list (rules.map enG)] 0)),(6,.ptr 6 0),(10,.ptr 38 0),(11,.ptr 11 0),(107,.d (.list (dH G))),(108,.d (.int .i64 G.length)),(109,.d (.int .i64 i))],
         [((38,0),some (.cell (.d (.list (atoms.map enT))))),((38,1),some (.cell (.d (.list (rules.map enG))))),((38,2),some (.cell (.d (.list ((hdM atoms.length rules rules.length).map fun r => .list (r.map enI)))))),((38,3),some (.cell (.sl 61 3 0 ((G.take i).foldl (cZ atoms rules) c1).1.1.length))),((61,0),some (.arr 3 (((G.take i).foldl (cZ atoms rules) c1).1.1.map dN))),((38,4),some (.cell (.map 35))),((35,0),some (.map (mpI ((G.take i).foldl (cZ atoms rules) c1).2))),((38,5),some (.cell (.map 36))),((36,0),some (.map (mpI ((G.take i).foldl (cZ atoms rules) c1).1.2))),((6,0),some (.cell (.d (.list [])))),((6,1),some (.cell (.d (.list [])))),((6,2),some (.cell (.d (.list [])))),((6,3),some (.cell (.d (.list [])))),((6,4),some (.cell (.d (.list [])))),((6,5),some (.cell (.d (.list [])))),((6,6),some (.cell (.d (.list [])))),((6,7),some (.cell (.d (.list [])))),((6,8),some (.cell (.d (.list [])))),((6,9),some (.cell (.d (.int .i64 0)))),((6,10),some (.cell (.d (.bool false)))),((11,0),some (.cell .aG)),((11,1),some (.cell (.d (.list ((iM names).map enT))))),((11,2),some (.cell (.d (.list (B.map enT))))),((11,3),some (.cell (.d (.list (Ii.map iq))))),((11,4),some (.cell .aG)),((11,5),some (.cell .aG)),((11,6),some (.cell .aG)),((11,7),some (.cell .aG)),((11,8),some (.cell .aG)),((11,9),some (.cell (.d (.int .i64 0)))),((11,10),some (.cell (.d (.bool hid))))],[38,61,35,36,6,11]⟩)
        (fun i=>i≤G.length∧((G.take i).foldl (cZ atoms rules) c1).1.1.length≤100000+8916992*i) (fun i=>G.length-i) 0 [(38,some 38),(61,some 62),(35,some 35),(36,some 36),(6,some 6),(11,some 11)] [] ?_ ?_ ?_
       ·unfold dH;rw [List.length_map];((conv=>whnf);repeat (first | exact ⟨⟩ | (refine ⟨by first | rfl | (simp;done) | (simp;omega),?_⟩;conv=>whnf)))
       ·exact ⟨Nat.zero_le _,hc0⟩
       ·rintro i ⟨hi,hcl⟩;have hcs:=fun (h:i<G.length)=>bn (cZ atoms rules) c1 G h
        generalize hce:(G.take i).foldl (cZ atoms rules) c1=c at hcl hcs ⊢;(repeat (refine gw rfl ?_;conv=>whnf));(split<;>rename_i hb<;>(try rw [hb])<;>(conv=>whnf))
        ·have hlt:i<G.length:=(by simpa using hb);clear hb;specialize hcs hlt;obtain ⟨hgn,hgp,hg6,hg0⟩:=hgrp _ (List.getElem_mem hlt);have hgg:=pF (List.getElem?_eq_getElem hlt);generalize G[i]=g at hcs hgn hgp hg6 hg0 hgg;obtain ⟨g0,g',rfl⟩:=List.exists_cons_of_ne_nil hg0;have hg0n:=hgn g0 (by simp);(repeat (refine gw rfl ?_;conv=>whnf));refine ⟨by omega,_,hgg,rfl,?_⟩;(conv=>whnf);(repeat (refine gw rfl ?_;conv=>whnf));refine ⟨by omega,_,rfl,rfl,?_⟩;(conv=>whnf);refine ⟨by omega,_,dB hg0n,rfl,?_⟩;(conv=>whnf);refine .inl ⟨_,Tryz.given atoms[g0],.inl rfl,?_⟩;(conv=>whnf);have hgs:∀ b,iF atoms[g0]=b→cZ atoms rules c (g0::g')=match b with | true=>c | false=>gV rules (g0::g') c:=fun b e=>by
          subst e;unfold cZ;rw [show atoms.getD ((g0::g').getD 0 0) (.mk [] [])=atoms[g0] from by simp [hg0n]]
         cases hgv:iF atoms[g0] with
         | true=>
           have hS:=hgs _ hgv;(conv=>whnf);(repeat (refine gw rfl ?_;conv=>whnf));refine ⟨by omega,?_⟩;(conv=>whnf);refine ⟨i+1,[(38,some 38),(61,some 61),(35,some 35),(36,some 36),(6,some 6),(11,some 11)],[],?_,⟨by omega,by rw [hcs,hS];dsimp only;omega⟩,by omega⟩;rw [hcs,hS];((conv=>whnf);repeat (first | exact ⟨⟩ | (refine ⟨by first | rfl | (simp;done) | (simp;omega),?_⟩;conv=>whnf)))
         | false=>
           have hS:=hgs _ hgv;(conv=>whnf);(repeat (refine gw rfl ?_;conv=>whnf));have hgl:=O6 hr hf hg6 c;refine .inr ⟨_,_,_,_,_,_,Tryz.Zj atoms rules atoms.length (g0::g') c.1.1 c.2 c.1.2 hn hr hf hgp hgn hg6 (by omega),[(0,38),(1,61),(2,35),(3,36),(4,62)],[62],rfl,rfl,?_⟩;(conv=>whnf);refine ⟨rfl,rfl,rfl,rfl,rfl,rfl,rfl,rfl,rfl,?_⟩;(conv=>whnf);(repeat (refine gw rfl ?_;conv=>whnf));refine ⟨by omega,?_⟩;(conv=>whnf);refine ⟨i+1,[(38,some 38),(61,some 62),(35,some 35),(36,some 36),(6,some 6),(11,some 11)],[],?_,⟨by omega,by rw [hcs,hS,Nat.mul_succ,← Nat.add_assoc];exact Nat.le_trans hgl (Nat.add_le_add_right hcl _)⟩,by omega⟩;rw [hcs,hS];((conv=>whnf);repeat (first | exact ⟨⟩ | (refine ⟨by first | rfl | (simp;done) | (simp;omega),?_⟩;conv=>whnf)))
        ·have hie:i=G.length:=(by simp at hb;omega);subst hie;clear hb hcs;rw [List.take_length] at hce;have hM:=Tryz.YV atoms rules lv hok (fun r hr'=>⟨by have:=hf r hr';omega,by have:=hf r hr';omega⟩) hv hn hr hf hlv hs _ rfl (Dk atoms.length (fF atoms lv) rules hn);(repeat (refine gw rfl ?_;conv=>whnf));refine .inr ⟨_,_,_,_,_,_,Tryz.UE atoms (iM names) B Ii rules c.2 hn hok hsh hro hba hin2 (by unfold iM;rw [List.length_map];omega) (by omega) (by omega),[(201,38),(202,11),(203,35)],[],rfl,rfl,?_⟩;(conv=>whnf);refine ⟨rfl,rfl,rfl,rfl,rfl,rfl,rfl,rfl,rfl,rfl,rfl,rfl,?_⟩;(conv=>whnf);refine WP.weak (l':=⟨[(1,.d (.list (names.map enT))),(2,.d (.bool hid)),(3,.d (.ref [.list (atoms.map enT),.list (rules.map enG)] 0)),(6,.ptr 6 0),(10,.ptr 38 0),(11,.ptr 11 0)],[((38,0),some (.cell (.d (.list (atoms.map enT))))),((38,1),some (.cell (.d (.list (rules.map enG))))),((38,2),some (.cell (.d (.list ((hdM atoms.length rules rules.length).map fun r => .list (r.map enI)))))),((38,3),some (.cell (.d (.list (c.1.1.map dN))))),((38,4),some (.cell (.map 35))),((35,0),some (.map (mpI c.2))),((38,5),some (.cell (.map 36))),((36,0),some (.map (mpI c.1.2))),((6,0),some (.cell (.d (.list [])))),((6,1),some (.cell (.d (.list [])))),((6,2),some (.cell (.d (.list [])))),((6,3),some (.cell (.d (.list [])))),((6,4),some (.cell (.d (.list [])))),((6,5),some (.cell (.d (.list [])))),((6,6),some (.cell (.d (.list [])))),((6,7),some (.cell (.d (.list [])))),((6,8),some (.cell (.d (.list [])))),((6,9),some (.cell (.d (.int .i64 0)))),((6,10),some (.cell (.d (.bool false)))),((11,0),some (.cell .aG)),((11,1),some (.cell (.d (.list ((iM names).map enT))))),((11,2),some (.cell (.d (.list (B.map enT))))),((11,3),some (.cell (.d (.list (Ii.map iq))))),((11,4),some (.cell .aG)),((11,5),some (.cell (.d (.list ((nextL atoms c.2 B).map enI))))),((11,6),some (.cell (.d (.list ((jq atoms c.2 (iM names) Ii).map enI))))),((11,7),some (.cell (.d (.list ((l9 atoms c.2 (iM names)).map aV))))),((11,8),some (.cell (.d (.list ((rD atoms c.2 (iM names)).map aV))))),((11,9),some (.cell (.d (.int .i64 (ofV atoms c.2 dQ []))))),((11,10),some (.cell (.d (.bool hid))))],[38,35,36,6,11]⟩) [(38,some 38),(35,some 35),(36,some 36),(6,some 6),(11,some 11)] [61] ?_ ?_
         ·((conv=>whnf);repeat (first | exact ⟨⟩ | (refine ⟨by first | rfl | (simp;done) | (simp;omega),?_⟩;conv=>whnf)));refine ⟨c.1.1.map dN,by rw [List.drop_zero];exact List.take_of_length_le (by simp),by simp,rfl,?_⟩;((conv=>whnf);repeat (first | exact ⟨⟩ | (refine ⟨by first | rfl | (simp;done) | (simp;omega),?_⟩;conv=>whnf)))
         (repeat (refine gw rfl ?_;conv=>whnf));refine ⟨rfl,?_⟩;(conv=>whnf);(repeat (refine gw rfl ?_;conv=>whnf));refine .inl ⟨_,Tryz.U9 atoms B rules _ hn hok hba (by omega) (Nat.le_trans (uM _ _) (Nat.le_trans (Dk atoms.length (fF atoms lv) rules hn) (by decide))) (SC _ _) hM,.inl rfl,?_⟩;(conv=>whnf);(repeat (refine gw rfl ?_;conv=>whnf));refine ⟨rfl,?_⟩;(conv=>whnf);(repeat (refine gw rfl ?_;conv=>whnf));have hcs:csN atoms rules names G=c:=by
          unfold csN;rw [hBe,hI,hc1];exact hce
         unfold Xn;rw [hcs,hBe,hI];rfl
end Go.Proofs.YtdonenoiehdahaaGreat
namespace Go.Proofs.YtdonenoiehdahaaGreat
open Go Go.Abs Go.Own
inductive FC (nb ni:Nat) (i:Nat):Gt→Prop
 | fls:FC nb ni i (0,0,[])
 | tru:FC nb ni i (1,0,[])
 | base (k:Nat) (h:k<nb):FC nb ni i (2,(k:Nat),[])
 | inp (k:Nat) (h:k<ni):FC nb ni i (3,(k:Nat),[])
 | two (kind:Int) (l:List Int) (hk:kind=4∨kind=5) (hl:l≠[]) (ha:l.Pairwise (·<·)) (hr:∀ x∈l,0≤x∧x<(i:Nat)):FC nb ni i (kind,0,l)
 | neg (x:Int) (hx:0≤x∧x<(i:Nat)):FC nb ni i (6,0,[x])
def P8 (nb ni:Nat) (gs:List Gt):Prop:=∀ i (h:i<gs.length),FC nb ni i gs[i]
theorem P8.snoc {nb ni:Nat} {gs:List Gt} {g:Gt} (h:P8 nb ni gs) (k:FC nb ni gs.length g):P8 nb ni (gs++[g]):=fun i hi=>by
 rcases Nat.lt_or_ge i gs.length with hl | hl
 ·rw [List.getElem_append_left hl];exact h i hl
 ·have:i=gs.length:=by simp at hi;omega
  subst this;rw [List.getElem_append_right (Nat.le_refl _)]
  simpa using k
def Ran (l:List Int) (k:Nat):Prop:=∀ x∈l,0≤x∧x<(k:Nat)
def dR (m:Mi) (k:Nat):Prop:=∀ e∈m,0≤e.2∧e.2<(k:Nat)
theorem dR.mono {m:Mi} {k k':Nat} (h:dR m k) (hk:k≤k'):dR m k':=fun e he=>by have:=h e he;omega
theorem Ran.mono {m:List Int} {k k':Nat} (h:Ran m k) (hk:k≤k'):Ran m k':=fun e he=>by have:=h e he;omega
theorem KP {m:Mi} {k v:Int} {e:Int×Int} (h:e∈gU m k v):e=(k,v)∨e∈m:=by
 induction m with
 | nil=>unfold gU at h;exact .inl (List.mem_singleton.1 h)
 | cons x m ih=>
   unfold gU at h;split at h
   ·exact (List.mem_cons.1 h).elim .inl fun h => .inr (List.mem_cons_of_mem _ h)
   ·rcases List.mem_cons.1 h with h | h
    ·exact .inr (by rw [h];exact List.mem_cons_self)
    ·exact (ih h).elim .inl fun h => .inr (List.mem_cons_of_mem _ h)
theorem dR.set {m:Mi} {k:Nat} {a v:Int} (h:dR m k) (hv:0≤v∧v<(k:Nat)):dR (gU m a v) k:=fun e he=>
 (KP he).elim (fun e1=>by rw [e1];exact hv) (h e)
theorem sS {m:Mi} {a v:Int} (h:jv m a=some v):(a,v)∈m:=by
 induction m with
 | nil=>cases h
 | cons x m ih=>
   unfold jv at h;split at h
   ·rename_i e;cases h;rw [e];exact List.mem_cons_self
   ·exact List.mem_cons_of_mem _ (ih h)
theorem dR.val {m:Mi} {k:Nat} {a:Int} (h:dR m k) (h0:0<k):0≤bI m a∧bI m a<(k:Nat):=by
 unfold bI;cases hg:jv m a with
 | none=>exact ⟨Int.le_refl _,by show (0:Int)<_;omega⟩
 | some v=>exact h _ (sS hg)
theorem KO {m:Mi} {a v:Int} (h:jv m a=none):gU m a v=m++[(a,v)]:=by
 induction m with
 | nil=>rfl
 | cons x m ih=>
   unfold jv at h;split at h
   ·cases h
   ·rename_i e;unfold gU;rw [if_neg e,ih h];rfl
theorem Td {m:Mi} {a:Int} (h:jv m a=none):∀ e∈m,e.1≠a:=by
 induction m with
 | nil=>intro e he;cases he
 | cons x m ih=>
   unfold jv at h;split at h
   ·cases h
   ·rename_i hne;intro e he;rcases List.mem_cons.1 he with rfl | he
    ·exact fun k=>hne k.symm
    ·exact ih h e he
structure GI (nb ni n:Nat) (s:Gn):Prop where
 ok:P8 nb ni s.1
 two:2≤s.1.length
 neg:dR s.2 s.1.length
 keys:(s.2.map (·.1)).Nodup
 key:∀ e∈s.2,0≤e.1∧e.1<(n:Nat)
structure Ext (nb ni n k:Nat) (s t:Gn):Prop where
 inv:GI nb ni n t
 len:s.1.length≤t.1.length
 cnt:t.1.length+s.2.length≤s.1.length+t.2.length+k
theorem Ext.refl {nb ni n:Nat} {s:Gn} (h:GI nb ni n s):Ext nb ni n 0 s s:=⟨h,Nat.le_refl _,Nat.le_refl _⟩
theorem Ext.trans {nb ni n k k':Nat} {s t u:Gn} (h:Ext nb ni n k s t) (h':Ext nb ni n k' t u):Ext nb ni n (k+k') s u:=
 ⟨h'.inv,Nat.le_trans h.len h'.len,by have:=h.cnt;have:=h'.cnt;omega⟩
theorem Ext.le {nb ni n k k':Nat} {s t:Gn} (h:Ext nb ni n k s t) (hk:k≤k'):Ext nb ni n k' s t:=⟨h.inv,h.len,by have:=h.cnt;omega⟩
variable {nb ni n:Nat}
theorem Dz {val:Mi} {s:Gn} {a:Int} (h:GI nb ni n s) (hv:dR val s.1.length) (ha:0≤a∧a<(n:Nat)) :
  Ext nb ni n 0 s (oD val s a)∧0≤Bq s a∧Bq s a<((oD val s a).1.length:Nat):=by
 unfold oD Bq;cases hg:jv s.2 a with
 | some k=>exact ⟨.refl h,h.neg _ (sS hg)⟩
 | none=>
   have h2:=h.two;refine ⟨⟨⟨h.ok.snoc (.neg _ (hv.val (by omega))),(by first | (simp;done) | (simp;omega)),?_,?_,?_⟩,(by first | (simp;done) | (simp;omega)),by dsimp only;rw [KO hg];first | (simp;done) | (simp;omega)⟩,by dsimp only;omega,(by first | (simp;done) | (simp;omega))⟩
   ·exact (h.neg.mono (by first | (simp;done) | (simp;omega))).set ⟨by omega,(by first | (simp;done) | (simp;omega))⟩
   ·dsimp only;rw [KO hg,List.map_append,List.nodup_append];refine ⟨h.keys,(by first | (simp;done) | (simp;omega)),fun x hx y hy=>?_⟩;obtain ⟨e,he,rfl⟩:=List.mem_map.1 hx;rw [show y=a by simpa using hy];exact Td hg e he
   ·intro e he;dsimp only at he;rcases KP he with rfl | he
    ·exact ha
    ·exact h.key e he
theorem uJ {s:Gn} {kind:Int} {l:List Int} (hk:kind=4∨kind=5) (h:GI nb ni n s) (hl:Ran l s.1.length) :
  Ext nb ni n 1 s (gX s.1 kind l,s.2)∧0≤nM s.1 kind l∧nM s.1 kind l<((gX s.1 kind l).length:Nat):=by
 have h2:=h.two;have hm:∀ x∈nrm l,0≤x∧x<(s.1.length:Nat):=fun x hx=>hl x (qx.1 hx)
 have ha:=Jm l;unfold gX nM;generalize nrm l=u at hm ha
 match u,hm,ha with
 | [],_,_=>exact ⟨(Ext.refl h).le (by omega),by dsimp only;split<;>omega,by dsimp only;split<;>omega⟩
 | [x],hm,_=>exact ⟨(Ext.refl h).le (by omega),hm x (by first | (simp;done) | (simp;omega))⟩
 | x::y::u,hm,ha=>
   refine ⟨⟨⟨h.ok.snoc (.two kind _ hk (by first | (simp;done) | (simp;omega)) ha hm),(by first | (simp;done) | (simp;omega)),h.neg.mono (by first | (simp;done) | (simp;omega)),h.keys,h.key⟩,(by first | (simp;done) | (simp;omega)),(by first | (simp;done) | (simp;omega))⟩,by dsimp only;omega,(by first | (simp;done) | (simp;omega))⟩
theorem zG {val:Mi}:∀ {l:List Int} {s:Gn×List Int},GI nb ni n s.1→dR val s.1.1.length→(∀ a∈l,0≤a∧a<(n:Nat))→Ran s.2 s.1.1.length →
  Ext nb ni n 0 s.1 (l.foldl (gI val) s).1∧Ran (l.foldl (gI val) s).2 (l.foldl (gI val) s).1.1.length
 | [],s,h,_,_,hr=>⟨.refl h,hr⟩
 | a::l,s,h,hv,ha,hr=>by
   rw [List.foldl_cons];obtain ⟨h1,h2⟩:=Dz h hv (ha a (by first | (simp;done) | (simp;omega)));have h3:Ran (gI val s a).2 (gI val s a).1.1.length:=fun x hx=>by
    rcases List.mem_append.1 hx with hx | hx
    ·exact (hr.mono h1.len) x hx
    ·rw [List.mem_singleton.1 hx];exact h2
   obtain ⟨h4,h5⟩:=zG (l:=l) (s:=gI val s a) h1.inv (hv.mono h1.len) (fun b hb=>ha b (by simp [hb])) h3;exact ⟨h1.trans h4,h5⟩
def oJ (n:Nat) (r:Gr):Prop:=(∀ x∈r.2.1,0≤x∧x<(n:Int))∧∀ x∈r.2.2,0≤x∧x<(n:Int)
theorem GR {val:Mi} {r:Gr} {s:Gn} (h:GI nb ni n s) (hv:dR val s.1.length) (hr:oJ n r) :
  Ext nb ni n 1 s (rJ val r s)∧0≤GN val r s∧GN val r s<((rJ val r s).1.length:Nat):=by
 have h2:=h.two
 obtain ⟨h3,h4⟩:=zG (l:=r.2.2) (s:=(s,r.2.1.map (bI val))) h hv hr.2 (fun x hx=>by
  obtain ⟨a,_,rfl⟩:=List.mem_map.1 hx
  exact hv.val (by first | omega | (dsimp only;omega)))
 obtain ⟨h5,h6⟩:=uJ (kind:=4) (.inl rfl) h3.inv h4;exact ⟨(h3.trans h5).le (by omega),h6⟩
theorem xA {val:Mi} {rules:List Gr} (hr:∀ r∈rules,oJ n r):∀ {l:List Int} {s:Gn×List Int},GI nb ni n s.1→dR val s.1.1.length→Ran s.2 s.1.1.length →
  Ext nb ni n l.length s.1 (l.foldl (fO val rules) s).1∧Ran (l.foldl (fO val rules) s).2 (l.foldl (fO val rules) s).1.1.length
 | [],s,h,_,hn=>⟨.refl h,hn⟩
 | i::l,s,h,hv,hn=>by
   rw [List.foldl_cons];have hri:oJ n (iQ rules i):=by
    unfold iQ;rw [List.getD_eq_getElem?_getD];cases hg:rules[i.toNat]? with
    | none=>exact ⟨(fun x hx=>by cases hx),fun x hx=>by cases hx⟩
    | some r=>exact hr r (List.mem_of_getElem? hg)
   obtain ⟨h1,h2⟩:=GR h hv hri;have h3:Ran (fO val rules s i).2 (fO val rules s i).1.1.length:=fun x hx=>by
    rcases List.mem_append.1 hx with hx | hx
    ·exact (hn.mono h1.len) x hx
    ·rw [List.mem_singleton.1 hx];exact h2
   obtain ⟨h4,h5⟩:=xA hr (l:=l) (s:=fO val rules s i) h1.inv (hv.mono h1.len) h3;exact ⟨(h1.trans h4).le (by first | (simp;done) | (simp;omega)),h5⟩
theorem IJ {val:Mi} {rules:List Gr} (hr:∀ r∈rules,oJ n r) {l:List Int} {s:Gn} (h:GI nb ni n s) (hv:dR val s.1.length) :
  Ext nb ni n (l.length+1) s (nV val rules l s)∧0≤uj val rules l s∧uj val rules l s<((nV val rules l s).1.length:Nat):=by
 obtain ⟨h3,h4⟩:=xA hr (l:=l) (s:=(s,[])) h hv (fun x hx=>by cases hx);obtain ⟨h5,h6⟩:=uJ (kind:=5) (.inr rfl) h3.inv h4;exact ⟨h3.trans h5,h6⟩
structure TQ (nb ni n k:Nat) (s:Gn) (c:Cs):Prop where
 ext:Ext nb ni n k s c.1
 ran:dR c.2 c.1.1.length
theorem Ic {val:Mi} {rules:List Gr} (hr:∀ r∈rules,oJ n r):∀ {g:List Nat} {q:Cs},GI nb ni n q.1→dR val q.1.1.length→dR q.2 q.1.1.length →
  TQ nb ni n (g.length+fD rules g) q.1 (g.foldl (iP rules val) q)
 | [],q,h,_,hq=>⟨.refl h,hq⟩
 | a::g,q,h,hv,hq=>by
   rw [List.foldl_cons];obtain ⟨h1,h2⟩:=IJ hr (l:=aI rules a rules.length) h hv;have h3:=Ic hr (g:=g) (q:=iP rules val q a) h1.inv (hv.mono h1.len) ((hq.mono h1.len).set h2);refine ⟨(h1.trans h3.ext).le ?_,h3.ran⟩;unfold fD;rw [List.map_cons,List.sum_cons,List.length_cons];omega
theorem Iy {next:Mi} {k:Nat} (h0:0<k) (hn:dR next k):∀ {g:List Nat} {val:Mi},dR val k→dR (qP next g val) k
 | [],val,h=>h
 | a::g,val,h=>Iy h0 hn (g:=g) (val:=gU val (a:Nat) (bI next (a:Nat))) (h.set (hn.val h0))
theorem yT {k:Nat} (h0:0<k):∀ {g:List Nat} {val:Mi},dR val k→dR (jU g val) k
 | [],val,h=>h
 | a::g,val,h=>yT h0 (g:=g) (val:=gU val (a:Nat) 0) (h.set ⟨by omega,by omega⟩)
theorem Df {rules:List Gr} (hr:∀ r∈rules,oJ n r) {g:List Nat} {c:Cs} (h:GI nb ni n c.1) (hv:dR c.2 c.1.1.length):TQ nb ni n (g.length+fD rules g) c.1 (oh rules g c):=by
 have h1:=Ic hr (g:=g) (q:=(c.1,[])) h hv (fun e he=>by cases he);have h2:=h1.ext.inv.two;exact ⟨h1.ext,Iy (by omega) h1.ran (hv.mono h1.ext.len)⟩
theorem rO {rules:List Gr} (hr:∀ r∈rules,oJ n r) {g:List Nat} {c:Cs} (h:GI nb ni n c.1) (hv:dR c.2 c.1.1.length):∀ k,TQ nb ni n (k*(g.length+fD rules g)) c.1 (bZ rules g k c)
 | 0=>⟨(Ext.refl h).le (Nat.zero_le _),hv⟩
 | k+1=>by
   have h1:=rO hr (g:=g) h hv k;have h2:=Df hr (g:=g) h1.ext.inv h1.ran;exact ⟨(h1.ext.trans h2.ext).le (by rw [Nat.add_mul,Nat.one_mul];exact Nat.le_refl _),h2.ran⟩
theorem O7 {rules:List Gr} (hr:∀ r∈rules,oJ n r) {g:List Nat} {c:Cs} (h:GI nb ni n c.1) (hv:dR c.2 c.1.1.length):TQ nb ni n (bV rules g) c.1 (gV rules g c):=by
 have h2:=h.two;unfold gV bV;cases xU rules g with
 | true=>exact rO hr (c:=(c.1,jU g c.2)) h (yT (k:=c.1.1.length) (by omega) hv) g.length
 | false=>rw [← Nat.one_mul (g.length+fD rules g)];exact rO hr h hv 1
theorem Ed {atoms:List Tm} {rules:List Gr} (hr:∀ r∈rules,oJ n r):∀ {G:List (List Nat)} {c:Cs},GI nb ni n c.1→dR c.2 c.1.1.length →
  TQ nb ni n (G.map (bV rules)).sum c.1 (G.foldl (cZ atoms rules) c)
 | [],c,h,hv=>⟨.refl h,hv⟩
 | g::G,c,h,hv=>by
   rw [List.foldl_cons,List.map_cons,List.sum_cons];have h1:TQ nb ni n (bV rules g) c.1 (cZ atoms rules c g):=by
    unfold cZ;split
    ·exact ⟨(Ext.refl h).le (Nat.zero_le _),hv⟩
    ·exact O7 hr h hv
   have h2:=Ed (atoms:=atoms) hr (G:=G) h1.ext.inv h1.ran;exact ⟨h1.ext.trans h2.ext,h2.ran⟩
theorem filter_one {a:Int}:∀ {l:List Int},l.Nodup→l.length≤(l.filter fun x=>decide (x≠a)).length+1
 | [],_=>Nat.zero_le _
 | x::l,h=>by
   have h:=List.nodup_cons.1 h;by_cases e:x=a
   ·subst e
    rw [List.filter_cons_of_neg (by simp),List.filter_eq_self.2 fun y hy=>by
     have:y≠x:=fun e=>h.1 (e ▸ hy)
     simpa using this,List.length_cons]
    exact Nat.le_refl _
   ·rw [List.filter_cons_of_pos (by simpa using e),List.length_cons,List.length_cons];have:=filter_one (a:=a) h.2;omega
theorem DC {l:List Int} {n:Nat} (h:l.Nodup) (hr:∀ x∈l,0≤x∧x<(n:Nat)):l.length≤n:=by
 induction n generalizing l with
 | zero=>
   cases l with
   | nil=>exact Nat.le_refl _
   | cons x l=>have:=hr x (by simp);omega
 | succ n ih=>
   have h1:=filter_one (a:=(n:Nat)) h;have h2:=ih (l:=l.filter fun x=>decide (x≠((n:Nat):Int))) (h.filter _) fun x hx=>by
    obtain ⟨h3,h4⟩:=List.mem_filter.1 hx;have:=hr x h3;have:=of_decide_eq_true h4;omega
   omega
structure Fst (nb ni n:Nat) (c:Cs):Prop where
 inv:GI nb ni n c.1
 ran:dR c.2 c.1.1.length
theorem Fst.add {nb ni n:Nat} {c:Cs} {g:Gt} {a:Int} (h:Fst nb ni n c) (hg:FC nb ni c.1.1.length g):Fst nb ni n ((c.1.1++[g],c.1.2),gU c.2 a (c.1.1.length:Nat)):=
 ⟨⟨h.inv.ok.snoc hg,by have:=h.inv.two;simp;omega,h.inv.neg.mono (by first | (simp;done) | (simp;omega)),h.inv.keys,h.inv.key⟩,(h.ran.mono (by first | (simp;done) | (simp;omega))).set ⟨by omega,(by first | (simp;done) | (simp;omega))⟩⟩
theorem Ia {atoms:List Tm}:∀ {l:List (Tm×Nat)} {c:Cs},(∀ p∈l,p.2<nb)→Fst nb ni n c→Fst nb ni n (l.foldl (zZ atoms) c)
 | [],c,_,h=>h
 | p::l,c,hp,h=>Ia (l:=l) (c:=zZ atoms c p) (fun q hq=>hp q (by simp [hq])) (h.add (.base _ (hp p (by first | (simp;done) | (simp;omega)))))
theorem H6 {atoms roles:List Tm}:∀ {l:List (In×Nat)} {c:Cs},(∀ p∈l,p.2<ni)→Fst nb ni n c→Fst nb ni n (l.foldl (zX atoms roles) c)
 | [],c,_,h=>h
 | p::l,c,hp,h=>H6 (l:=l) (c:=zX atoms roles c p) (fun q hq=>hp q (by simp [hq])) (h.add (.inp _ (hp p (by first | (simp;done) | (simp;omega)))))
theorem H8 {k:Nat} (h0:0<k):∀ {l:List (Tm×Nat)} {v:Mi},dR v k→dR (l.foldl gG v) k
 | [],v,h=>h
 | p::l,v,h=>H8 h0 (l:=l) (v:=gG v p) (by
    unfold Go.Proofs.YtdonenoiehdahaaGreat.gG;split
    ·exact h.set ⟨by omega,by omega⟩
    ·exact h)
theorem Zy (nb ni:Nat):P8 nb ni cs0.1.1
 | 0,_ => .fls
 | 1,_ => .tru
 | i+2,hi=>absurd hi (by simp [cs0])
theorem X4 (nb ni n:Nat):Fst nb ni n cs0:=
 ⟨⟨Zy nb ni,Nat.le_refl _,(fun e he=>by cases he),List.nodup_nil,fun e he=>by cases he⟩,fun e he=>by cases he⟩
theorem yS {α:Type} {l:List α}:∀ p∈l.zipIdx,p.2<l.length:=fun p hp=>by have:=List.snd_lt_of_mem_zipIdx hp;simpa using this
theorem AL (atoms roles bases:List Tm) (ins:List In) (n:Nat):Fst bases.length ins.length n (fA atoms roles bases ins cs0):=by
 have h:Fst bases.length ins.length n (gq atoms roles bases ins cs0):=H6 yS (Ia yS (X4 _ _ _));have h2:=h.inv.two;exact ⟨h.inv,H8 (k:=(gq atoms roles bases ins cs0).1.1.length) (by omega) h.ran⟩
theorem Pz {atoms:List Tm} {rules:List Gr} {names:List Tm} {G:List (List Nat)} (hr:∀ r∈rules,oJ atoms.length r) :
  P8 (ak atoms).length (aU atoms names).length (csN atoms rules names G).1.1∧dR (csN atoms rules names G).2 (csN atoms rules names G).1.1.length∧2≤(csN atoms rules names G).1.1.length ∧
   (csN atoms rules names G).1.1.length≤2+(ak atoms).length+(aU atoms names).length+atoms.length+(G.map (bV rules)).sum:=by
 have h0:=AL atoms (iM names) (ak atoms) (aU atoms names) atoms.length;have h1:=Ed (atoms:=atoms) hr (G:=G) h0.inv h0.ran;refine ⟨h1.ext.inv.ok,h1.ran,h1.ext.inv.two,?_⟩;have h2:=h1.ext.cnt;have h3:=AB atoms (iM names) (ak atoms) (aU atoms names) cs0;have h4:(csN atoms rules names G).1.2.length≤atoms.length:=by
  have:=DC h1.ext.inv.keys (fun x hx=>by
   obtain ⟨e,he,rfl⟩:=List.mem_map.1 hx
   exact h1.ext.inv.key e he)
  rw [List.length_map] at this;exact this
 have h5:(fA atoms (iM names) (ak atoms) (aU atoms names) cs0).1.2=[]:=sK _ _ _ _ _;unfold csN at *;rw [h5] at h2;have h6:cs0.1.1.length=2:=rfl;simp only [List.length_nil] at h2;omega
def yx {α:Type} (o:Option α):Nat:=o.toList.length
theorem QF {α:Type} (o:Option α):yx o≤1:=by cases o<;>simp [yx]
theorem Gz (name:Str) (role:Option Tm) (t:Tm) (l:List Tm):(fK name role (t::l)).length=yx (jW name role t)+(fK name role l).length:=by
 unfold fK yx;cases h:jW name role t with
 | none=>rw [List.filterMap_cons_none h];simp
 | some x=>rw [List.filterMap_cons_some h];simp;omega
def Apart (names:List Tm):Prop:=names.Pairwise fun r s=>aS r s≠0
theorem UH {a r:Tm} (b:Tm) (h:aS a r≠0) {t:Tm} (ht:t.args=[a,b]):yx (jW bC (some r) t)=0:=by
 unfold jW yx;cases hn:t.name==bC
 ·rfl
 ·dsimp only;rw [ht];dsimp only;rw [show (aS a r==0)=false from by simpa using h];rfl
theorem Ll (t:Tm):∀ {names:List Tm},Apart names→(names.map fun r=>yx (jW bC (some r) t)).sum≤1
 | [],_=>Nat.zero_le _
 | r::names,h=>by
   have h1:=List.pairwise_cons.1 h;rw [List.map_cons,List.sum_cons];rcases hs:jW bC (some r) t with _ | x
   ·have:=Ll t h1.2;simp [yx] at *;omega
   ·have:(names.map fun r=>yx (jW bC (some r) t)).sum=0:=by
     rw [List.sum_eq_zero_iff_forall_eq_nat];intro k hk;obtain ⟨s,hm,rfl⟩:=List.mem_map.1 hk;unfold jW at hs;split at hs
     ·cases hs
     ·dsimp only at hs;split at hs
      ·rename_i a b he;split at hs
       ·rename_i h0;have h0:aS a r=0:=(by simpa using h0);refine UH b (fun h2=>h1.1 s hm ?_) he;exact Ns (r:=a) (by rw [lN];omega) (by rw [lN];omega)
       ·cases hs
      ·cases hs
    rw [this];exact QF _
theorem Yb (t:Tm) {names:List Tm} (h:Apart names):yx (jW eY none t)+(names.map fun r=>yx (jW bC (some r) t)).sum≤1:=by
 cases hn:t.name==eY
 ·rw [Ob hn];have:=Ll t h;simp [yx] at *;omega
 ·have hd:(t.name==bC)=false:=by
   rw [eq_of_beq hn];rfl
  rw [show (names.map fun r=>yx (jW bC (some r) t)).sum=0 from by
   rw [List.sum_eq_zero_iff_forall_eq_nat];intro k hk;obtain ⟨s,_,rfl⟩:=List.mem_map.1 hk
   rw [Ob hd];rfl]
  exact QF _
theorem sum_add {α:Type} (f g:α→Nat):∀ l:List α,(l.map fun x=>f x+g x).sum=(l.map f).sum+(l.map g).sum
 | []=>rfl
 | x::l=>by simp only [List.map_cons,List.sum_cons,sum_add f g l];omega
theorem YC {names:List Tm} (h:Apart names):∀ atoms:List Tm,(fK eY none atoms).length+(names.map fun r=>(fK bC (some r) atoms).length).sum≤atoms.length
 | []=>by
   have:∀ l:List Tm,(l.map fun r=>(fK bC (some r) []).length).sum=0:=fun l=>by
    induction l with
    | nil=>rfl
    | cons x l ih=>rw [List.map_cons,List.sum_cons,ih];rfl
   rw [this];exact Nat.le_refl _
 | t::l=>by
   have h1:=YC h l;have h2:=Yb t h;rw [Gz,show (names.map fun r=>(fK bC (some r) (t::l)).length)=names.map fun r=>yx (jW bC (some r) t)+(fK bC (some r) l).length from List.map_congr_left fun r _=>Gz _ _ _ _,sum_add,List.length_cons];omega
theorem L6 (atoms:List Tm):∀ (names:List Tm) (k:Nat),((names.zipIdx k).flatMap (Bv atoms)).length=(names.map fun r=>(fK bC (some r) atoms).length).sum
 | [],k=>rfl
 | r::names,k=>by
   rw [List.zipIdx_cons,List.flatMap_cons,List.length_append,L6 atoms names,List.map_cons,List.sum_cons];unfold Bv;rw [List.length_map]
theorem jd {names:List Tm} (h:aX names=true) {i:Nat} (hi:i<names.length):names[i].args.length=0∧nameB names[i].name=true∧∀ k (hk:k<i),names[k].name≠names[i].name:=by
 unfold aX at h;simp only [Bool.and_eq_true,List.all_eq_true] at h;have h1:=h.2 i (List.mem_range.2 hi);rw [pq hi] at h1;simp only [Bool.and_eq_true,List.all_eq_true] at h1;refine ⟨of_decide_eq_true h1.1.1,h1.1.2,fun k hk=>?_⟩;have h2:=h1.2 k (List.mem_range.2 hk);rw [List.getElem?_eq_getElem (by omega)] at h2
 simpa using h2
theorem KW {names:List Tm} (h:aX names=true):Apart names:=by
 unfold Apart;rw [List.pairwise_iff_getElem];intro i j hi hj hij he;obtain ⟨h1,h2,_⟩:=jd h hi;obtain ⟨h3,h4,h5⟩:=jd h hj;exact h5 i hij ((zT h1 h3 h2 h4).1 he)
theorem V5 {atoms names:List Tm} (h:aX names=true):(ak atoms).length+(aU atoms names).length≤atoms.length:=by
 have:=YC (KW h) atoms;unfold aU ak;rw [L6];exact this
theorem Jc {names:List Tm} (h:aX names=true):iM names=names:=by
 unfold iM;refine List.ext_getElem (by simp) fun i h1 h2=>?_
 rw [List.getElem_map];obtain ⟨h3,_,_⟩:=jd h h2;generalize names[i]=t at h3;obtain ⟨n,l⟩:=t;show Tm.mk n []=_;rw [show l=[] from List.length_eq_zero_iff.1 h3]
theorem CS {name:Str} {t x:Tm} (h:jW name none t=some x):t.name=name∧t.args=[x]:=by
 unfold jW at h;split at h
 ·cases h
 ·rename_i hn;dsimp only at h;split at h
  ·rename_i y he;cases h;exact ⟨eq_of_beq hn,he⟩
  ·cases h
theorem xM {name:Str} {r t x:Tm} (h:jW name (some r) t=some x):∃ a,t.name=name∧t.args=[a,x]∧aS a r=0:=by
 unfold jW at h;split at h
 ·cases h
 ·rename_i hn;dsimp only at h;split at h
  ·rename_i a b he;split at h
   ·rename_i h0;cases h;exact ⟨a,eq_of_beq hn,he,by simpa using h0⟩
   ·cases h
  ·cases h
theorem Nq {t u:Tm} {l m:List Tm} (hn:t.name=u.name) (h1:t.args=l) (h2:u.args=m) (hl:l.length=m.length) (h0:l≠[]):aS t u=bH l m:=by
 have hl0:l.length≠0:=fun h=>h0 (List.length_eq_zero_iff.1 h)
 have c1:aO t=3:=by unfold aO;rw [if_neg (by rw [h1];exact hl0)]
 have c2:aO u=3:=by unfold aO;rw [if_neg (by rw [h2,← hl];exact hl0)]
 rw [kJ];unfold lex PG lex;rw [c1,c2,if_neg (by decide),if_neg (by decide),h1,h2,hl,hn,if_neg (fun k=>k (uX _)),if_neg (fun k=>k (nU.2 rfl))]
theorem oH {f:Tm→Option Tm} {p:Tm→Tm→Prop}:∀ {l:List Tm},(l.Pairwise fun a b=>aS a b<0)→(∀ t u x y,f t=some x→f u=some y→aS t u<0→p x y)→(l.filterMap f).Pairwise p
 | [],_,_ => .nil
 | t::l,h,hp=>by
   have h1:=List.pairwise_cons.1 h;have ih:=oH h1.2 hp;cases hf:f t with
   | none=>rw [List.filterMap_cons_none hf];exact ih
   | some x=>
     rw [List.filterMap_cons_some hf,List.pairwise_cons];refine ⟨fun y hy=>?_,ih⟩;obtain ⟨u,hu,hx⟩:=List.mem_filterMap.1 hy;exact hp t u x y hf hx (h1.1 u hu)
theorem vN {name:Str} {atoms:List Tm} (h:atoms.Pairwise fun a b=>aS a b<0):(fK name none atoms).Pairwise fun a b=>aS a b<0:=
 oH h fun t u x y h1 h2 h3=>by
  obtain ⟨n1,a1⟩:=CS h1;obtain ⟨n2,a2⟩:=CS h2;rw [Nq (n1.trans n2.symm) a1 a2 rfl (by simp),gu] at h3;unfold lex at h3;split at h3
  ·exact h3
  ·simp [bH] at h3
theorem nY {name:Str} {r:Tm} {atoms:List Tm} (h:atoms.Pairwise fun a b=>aS a b<0):(fK name (some r) atoms).Pairwise fun a b=>aS a b<0:=
 oH h fun t u x y h1 h2 h3=>by
  obtain ⟨a,n1,a1,z1⟩:=xM h1;obtain ⟨b,n2,a2,z2⟩:=xM h2;rw [Nq (n1.trans n2.symm) a1 a2 rfl (by simp),gu,gu] at h3;have:=Ns z1 z2;unfold lex at h3;rw [if_neg (fun k=>k this)] at h3;split at h3
  ·exact h3
  ·simp [bH] at h3
theorem rE {name:Str} {role:Option Tm} {atoms:List Tm} (h:∀ t∈atoms,eG false 4 t=true):∀ x∈fK name role atoms,eG false 4 x=true:=fun x hx=>by
 obtain ⟨t,ht,hxt⟩:=jX hx;have h1:=h t ht;rw [xE] at h1;split at h1
 ·split at h1
  ·rename_i h0;rw [List.length_eq_zero_iff.1 h0] at hxt;cases hxt
  ·simp only [Bool.and_eq_true,List.all_eq_true] at h1;have h2:=h1.1 x hxt;clear h1;have mono:∀ (k:Nat) (t:Tm),eG false k t=true→eG false (k+1) t=true:=fun k=>by
    induction k with
    | zero=>intro t h;cases t;simp [eG] at h
    | succ k ih=>
      intro t h;rw [xE] at h ⊢;split at h
      ·rename_i h4;rw [if_pos h4];split at h
       ·rename_i h0;rw [if_pos h0];exact h
       ·rename_i h0;rw [if_neg h0];simp only [Bool.and_eq_true,List.all_eq_true] at h ⊢;exact ⟨fun y hy=>ih y (h.1 y hy),h.2⟩
      ·cases h
   exact mono 3 x h2
 ·cases h1
end Go.Proofs.YtdonenoiehdahaaGreat
namespace Go.Proofs.YtdonenoiehdahaaGreat
open Go Go.Abs Go.Own
attribute [local irreducible] WP
theorem Yv {l:List Gt} {i:Nat} (h:i<l.length):(l.map dN)[((i:Int)).toNat]?=some (.agg [.int .i64 l[i].1,.int .i64 l[i].2.1,.list (l[i].2.2.map enI)]):=ay h
theorem qN {l:List Int} {i:Nat} (h:i<l.length):(l.map enI)[((i:Int)).toNat]?=some (.int .i64 l[i]):=ay h
structure TP (nb ni i:Nat) (g:Gt):Prop where
 kind:g.1=0∨g.1=1∨g.1=2∨g.1=3∨g.1=4∨g.1=5∨g.1=6
 idx:0≤g.2.1
 most:g.2.1<if g.1=3 then (ni:Int) else if g.1=2 then (nb:Int) else 1
 ins:(g.1≤3→g.2.2.length=0)∧(g.1=6→g.2.2.length=1)∧(g.1=4∨g.1=5→1≤g.2.2.length)
 asc:g.2.2.Pairwise (·<·)
 ran:∀ x∈g.2.2,0≤x∧x<(i:Int)
set_option maxRecDepth 10000 in
theorem Tryz.Zm (gs:List Gt) (roles bases:List Tm) (ins:List In) (ini next legal:List Int) (goals sees:List D) (term:Int) (hid:Bool) (i:Nat) (hi:i<gs.length) (h:TP bases.length ins.length i gs[i]) (hl:gs[i].2.2.length≤1000000) :
  Pure Tryz.prog 52 [(ig gs roles bases ins ini next legal goals sees term hid),.int .i64 i] [.int .i64 0]:=by
 refine Pure.of_wp hT (nt:=_) (c:=_) Tryz.func52 rfl rfl rfl rfl (by kernel_rfl) ?_;intro w0 ok0 β0;have hgt:=Yv hi;generalize gs[i]=g at h hl hgt;obtain ⟨kind,idx,L⟩:=g;obtain ⟨hk,h0,h1,h2,h3,h4⟩:=h;dsimp only at hk h0 h1 h2 h3 h4 hl hgt;repeat (refine gw rfl ?_;conv=>whnf)
 refine ⟨by omega,_,hgt,rfl,?_⟩;conv=>whnf
 repeat (refine gw rfl ?_;conv=>whnf)
 have e0:decide (idx<0)=false:=decide_eq_false (by omega);rcases hk with rfl | rfl | rfl | rfl | rfl | rfl | rfl
 all_goals repeat (refine gw rfl ?_;conv=>whnf)
 all_goals rw [e0]
 all_goals conv=>whnf
 all_goals simp at h1 h2
 all_goals repeat (refine gw rfl ?_;conv=>whnf)
 all_goals rw [show decide (idx≥_)=false from decide_eq_false (by first | omega | (rw [List.length_map];omega))]
 all_goals conv=>whnf
 all_goals repeat (refine gw rfl ?_;conv=>whnf)
 all_goals first
  | rw [show ((((L.map enI).length:Nat):Int) != 0)=false from by simp [h2]]
  | rw [show decide ((((L.map enI).length:Nat):Int)<1)=false from decide_eq_false (by rw [List.length_map];omega)]
  | rw [show ((((L.map enI).length:Nat):Int) != 1)=false from by simp [h2]]
 all_goals conv=>whnf
 all_goals repeat (refine gw rfl ?_;conv=>whnf)
 all_goals
  refine WP.loop (α:=Nat) (fun k=>⟨[(1,.d (.int .i64 i)),(5,.ptr 5 0),(7,.d (.int .i64 L.length)),(8,.d (.int .i64 k))],[((5,2),some (.cell (.d (.list (L.map enI)))))],[5]⟩) (fun k=>k≤L.length) (fun k=>L.length-k) 0 [(5,some 5)] [] ?_ ?_ ?_
  ·rw [List.length_map];((conv=>whnf);repeat (first | exact ⟨⟩ | (refine ⟨by first | rfl | (simp;done) | (simp;omega),?_⟩;conv=>whnf)))
  ·exact Nat.zero_le _
  ·intro k hk;(repeat (refine gw rfl ?_;conv=>whnf));(split<;>rename_i hb<;>(try rw [hb])<;>(conv=>whnf))
   ·have hlt:k<L.length:=(by simpa using hb);clear hb;have hr:=h4 _ (List.getElem_mem hlt);have hg2:=qN hlt;(repeat (refine gw rfl ?_;conv=>whnf));refine ⟨by omega,_,hg2,rfl,?_⟩;(conv=>whnf);rw [show decide (L[k]<0)=false from decide_eq_false (by omega)];(conv=>whnf);refine ⟨by omega,_,hg2,rfl,?_⟩;(conv=>whnf);rw [show decide (L[k]≥(i:Int))=false from decide_eq_false (by omega)];(conv=>whnf);cases k with
    | zero=>
      (conv=>whnf);(repeat (refine gw rfl ?_;conv=>whnf));refine ⟨by omega,?_⟩;(conv=>whnf);refine ⟨1,[(5,some 5)],[],?_,by omega,by omega⟩;((conv=>whnf);repeat (first | exact ⟨⟩ | (refine ⟨by first | rfl | (simp;done) | (simp;omega),?_⟩;conv=>whnf)))
    | succ k=>
      have hg3:(L.map enI)[(((k+1:Nat):Int)-1).toNat]?=some (.int .i64 L[k]):=by
       rw [show (((k+1:Nat):Int)-1)=(k:Nat) by omega];exact qN (by omega)
      have h5:=List.pairwise_iff_getElem.1 h3 k (k+1) (by omega) hlt (by omega);rw [show decide ((((k+1:Nat)):Int)>0)=true from decide_eq_true (by omega)];(conv=>whnf);refine ⟨by omega,_,hg2,rfl,?_⟩;(conv=>whnf);refine ⟨by omega,?_⟩;(conv=>whnf);refine ⟨by omega,_,hg3,rfl,?_⟩;(conv=>whnf);rw [show decide (L[k+1]≤L[k])=false from decide_eq_false (by omega)];(conv=>whnf);(repeat (refine gw rfl ?_;conv=>whnf));refine ⟨by omega,?_⟩;(conv=>whnf);refine ⟨k+2,[(5,some 5)],[],?_,by omega,by omega⟩;((conv=>whnf);repeat (first | exact ⟨⟩ | (refine ⟨by first | rfl | (simp;done) | (simp;omega),?_⟩;conv=>whnf)))
   ·clear hb;repeat (refine gw rfl ?_;conv=>whnf)
set_option maxRecDepth 10000 in
theorem Tryz.WU (gs:List Gt) (roles bases:List Tm) (ins:List In) (ini next legal:List Int) (goals sees:List D) (term:Int) (hid:Bool) (h1:1≤roles.length) (h4:roles.length≤4) (hr:∀ i (hi:i<roles.length),roles[i].args.length=0∧nameB roles[i].name=true∧∀ k (hk:k<i),roles[k].name≠roles[i].name) :
  Pure Tryz.prog 53 [(ig gs roles bases ins ini next legal goals sees term hid)] [.bool true]:=by
 refine Pure.of_wp hT (nt:=_) (c:=_) Tryz.func53 rfl rfl rfl rfl (by kernel_rfl) ?_;intro w0 ok0 β0;repeat (refine gw rfl ?_;conv=>whnf)
 rw [List.length_map,show decide (((roles.length:Nat):Int)<1)=false from decide_eq_false (by omega)];conv=>whnf
 rw [List.length_map,show decide (((roles.length:Nat):Int)>4)=false from decide_eq_false (by omega)];conv=>whnf
 repeat (refine gw rfl ?_;conv=>whnf)
 refine WP.loop (α:=Nat) (fun i=>⟨[(1,.d (.ref (ig gs roles bases ins ini next legal goals sees term hid).cells 0)),(3,.d (.int .i64 i))],[],[]⟩) (fun i=>i≤roles.length) (fun i=>roles.length-i) 0 [] [] ?_ ?_ ?_
 ·((conv=>whnf);repeat (first | exact ⟨⟩ | (refine ⟨by first | rfl | (simp;done) | (simp;omega),?_⟩;conv=>whnf)))
 ·exact Nat.zero_le _
 ·intro i hi;repeat (refine gw rfl ?_;conv=>whnf)
  rw [List.length_map];(split<;>rename_i hb<;>(try rw [hb])<;>(conv=>whnf))
  ·have hlt:i<roles.length:=(by simpa using hb);clear hb;have hgt:=dB hlt;obtain ⟨ha,hn,hd⟩:=hr i hlt;(repeat (refine gw rfl ?_;conv=>whnf));refine ⟨by omega,_,hgt,rfl,?_⟩;(conv=>whnf);rw [List.length_map,show (((roles[i].args.length:Nat):Int) != 0)=false by simp [ha]];(conv=>whnf);refine ⟨by omega,_,hgt,rfl,?_⟩;(conv=>whnf);refine .inl ⟨_,Tryz.DK roles[i].name,.inl rfl,?_⟩;rw [hn];(conv=>whnf);(repeat (refine gw rfl ?_;conv=>whnf));refine WP.loop (α:=Nat) (fun k=>⟨[(1,.d (.ref (ig gs roles bases ins ini next legal goals sees term hid).cells 0)),(3,.d (.int .i64 i)),(4,.d (.int .i64 k))],[],[]⟩) (fun k=>k≤i) (fun k=>i-k) 0 [] [] ?_ ?_ ?_
   ·((conv=>whnf);repeat (first | exact ⟨⟩ | (refine ⟨by first | rfl | (simp;done) | (simp;omega),?_⟩;conv=>whnf)))
   ·exact Nat.zero_le _
   ·intro k hk;(repeat (refine gw rfl ?_;conv=>whnf));(split<;>rename_i hb<;>(try rw [hb])<;>(conv=>whnf))
    ·have hkl:k<i:=(by simpa using hb);clear hb;(repeat (refine gw rfl ?_;conv=>whnf));refine ⟨by omega,_,dB (show k<roles.length by omega),rfl,?_⟩;(conv=>whnf);refine ⟨by omega,_,hgt,rfl,?_⟩;(conv=>whnf);(repeat (refine gw rfl ?_;conv=>whnf));rw [show (roles[k].name==roles[i].name)=false by simpa using hd k hkl];(conv=>whnf);(repeat (refine gw rfl ?_;conv=>whnf));refine ⟨by omega,?_⟩;(conv=>whnf);refine ⟨k+1,[],[],?_,by omega,by omega⟩;((conv=>whnf);repeat (first | exact ⟨⟩ | (refine ⟨by first | rfl | (simp;done) | (simp;omega),?_⟩;conv=>whnf)))
    ·clear hb;(repeat (refine gw rfl ?_;conv=>whnf));refine ⟨by omega,?_⟩;(conv=>whnf);refine ⟨i+1,[],[],?_,by omega,by omega⟩;((conv=>whnf);repeat (first | exact ⟨⟩ | (refine ⟨by first | rfl | (simp;done) | (simp;omega),?_⟩;conv=>whnf)))
  ·clear hb;repeat (refine gw rfl ?_;conv=>whnf)
end Go.Proofs.YtdonenoiehdahaaGreat
