/- Walks: the reference's Lists. -/
import Derived.Test.YtdonenoiehdahaaGreatLtAAnd
import Derived.Test.YtdonenoiehdahaaGreatLsXAnd
set_option linter.all false
namespace Go.Own
end Go.Own
namespace Go.Proofs.YtdonenoiehdahaaGreat
open Go Go.Abs Go.Own
attribute [local irreducible] WP
end Go.Proofs.YtdonenoiehdahaaGreat
namespace Go.Proofs.YtdonenoiehdahaaGreat
open Go Go.Abs Go.Own
theorem xI {atoms:List Tm} {lv:Str→Nat} {n:Int} (h:n.toNat<atoms.length):rkI (fF atoms lv) n=((lv (nameAt atoms n):Nat):Int):=by
 have hm:=jH h;unfold rkI fF;unfold nameAt at hm ⊢;rw [List.getElem?_eq_getElem h] at hm ⊢;rw [List.getD_eq_getElem?_getD,List.getElem?_map,List.getElem?_eq_getElem h];exact Dv hm
theorem KF {atoms:List Tm} {rules:List Gr} {lv:Str→Nat} (hlv:dK (nmS atoms) (dX atoms rules [])=some lv):iZ (dX atoms rules []) lv:=(iO hlv).1
theorem RF {atoms:List Tm} {rules:List Gr} {lv:Str→Nat} (h:iZ (dX atoms rules []) lv) {r:Gr} (hr:r∈rules) {x:Int} (hx:x∈r.2.1):lv (nameAt atoms x)≤lv (nameAt atoms r.1):=by
 obtain ⟨j,hj,rfl⟩:=List.mem_iff_getElem.1 hx;have:=h _ (BQ.2 (.inr ⟨r,hr,j,by unfold szR;omega,(Nh hj).symm⟩));exact this
theorem RG {atoms:List Tm} {rules:List Gr} {lv:Str→Nat} (h:iZ (dX atoms rules []) lv) {r:Gr} (hr:r∈rules) {x:Int} (hx:x∈r.2.2):lv (nameAt atoms x)<lv (nameAt atoms r.1):=by
 obtain ⟨j,hj,rfl⟩:=List.mem_iff_getElem.1 hx;have:=h _ (BQ.2 (.inr ⟨r,hr,r.2.1.length+j,by unfold szR;omega,(Nj hj).symm⟩));exact this
theorem Tj {str rk:List Int} {s round:Int} {r:Gr} (h:rkI str r.1=s) (hp:∀ n∈r.2.1,rkI str n≤s):tC str rk round r=nR str rk s round r:=by
 unfold tC nR;congr 1
 ·rw [Bool.eq_iff_iff,List.all_eq_true,List.all_eq_true];refine forall_congr' fun n=>forall_congr' fun hn=>?_
  have:=hp n hn;unfold posQ holdsB;rw [h];simp;omega
 ·rw [Bool.eq_iff_iff,List.all_eq_true,List.all_eq_true];refine forall_congr' fun n=>forall_congr' fun hn=>?_
  unfold negQ;simp
theorem GY {str:List Int} {s:Nat} {round:Int}:∀ {rules:List Gr} {q:List Int×Bool},(∀ r∈rules,rkI str r.1=((s:Nat):Int)→∀ n∈r.2.1,rkI str n≤((s:Nat):Int))→rules.foldl (gW str (s:Nat) round) q=(rules.filter (inS str s)).foldl (eX str (s:Nat) round) q
 | [],q,_=>rfl
 | r::l,q,h=>by
   rw [List.foldl_cons];have ih:=fun q=>GY (round:=round) (rules:=l) (q:=q) fun r hr=>h r (by simp [hr])
   by_cases e:rkI str r.1=((s:Nat):Int)
   ·rw [List.filter_cons_of_pos (by unfold inS;exact decide_eq_true e),List.foldl_cons,ih];congr 1;unfold gW eX;rw [e,beq_self_eq_true,Bool.true_and,Tj e (h r (by simp) e)];cases (decide (rkI q.1 r.1<0)&&nR str q.1 (s:Nat) round r)<;>rfl
   ·rw [List.filter_cons_of_neg (by unfold inS;simpa using e),ih];congr 1;unfold gW;rw [show (rkI str r.1==((s:Nat):Int))=false from beq_eq_false_iff_ne.2 e];rfl
theorem Ai {str:List Int} {s:Nat} {rules:List Gr} (h:∀ r∈rules,rkI str r.1=((s:Nat):Int)→∀ n∈r.2.1,rkI str n≤((s:Nat):Int)):∀ (f:Nat) (round:Int) (rk:List Int),ng str (s:Nat) rules f round rk=fE str (s:Nat) (rules.filter (inS str s)) f round rk
 | 0,_,_=>rfl
 | f+1,round,rk=>by
   unfold ng fE;rw [show Ar str (s:Nat) rules round rk=nI str (s:Nat) (rules.filter (inS str s)) round rk from GY h];cases (nI str (s:Nat) (rules.filter (inS str s)) round rk).2
   ·rfl
   ·exact Ai h f _ _
def rW (n:Nat) (str:List Int) (rules:List Gr) (facts:List Int) (k:Nat):List Int:=(List.range k).foldl (fun rk s=>fE str (s:Nat) (rules.filter (inS str s)) (n+1) 1 rk) (Oo n facts)
theorem OA {n:Nat} {str:List Int} {rules:List Gr} {facts:List Int} (h:∀ r∈rules,∀ n∈r.2.1,rkI str n≤rkI str r.1) (k:Nat):jl n str rules facts k=rW n str rules facts k:=by
 unfold jl rW;congr 1;funext rk s;exact Ai (fun r hr e x hx=>e ▸ h r hr x hx) _ _ _
end Go.Proofs.YtdonenoiehdahaaGreat
namespace Go.Proofs.YtdonenoiehdahaaGreat
open Go Go.Abs Go.Own
attribute [local irreducible] WP
theorem Ti {atoms:List Tm} {rules:List Gr} {names:List Tm} {e:Int} (h:(jK atoms rules names e).2=0):aK atoms rules=true∧aX names=true∧rules.any (aZ atoms)=false∧e=0 ∧
  iT atoms.length rules (aQ (bg atoms.length (aA atoms.length rules)) atoms.length)≤16384∧jK atoms rules names e=(((iT atoms.length rules (aQ (bg atoms.length (aA atoms.length rules)) atoms.length):Nat):Int),0):=by
 unfold jK at h ⊢;cases h1:aK atoms rules&&aX names with
 | false=>rw [h1] at h;cases h
 | true=>
   rw [h1] at h;simp only [Bool.and_eq_true] at h1;dsimp only at h ⊢;cases h2:rules.any (aZ atoms) with
   | true=>rw [h2] at h;cases h
   | false=>
     rw [h2] at h;dsimp only at h ⊢;by_cases h3:e=0
     ·rw [decide_eq_true h3] at h ⊢;dsimp only at h ⊢;by_cases h4:16384<iT atoms.length rules (aQ (bg atoms.length (aA atoms.length rules)) atoms.length)
      ·rw [decide_eq_true h4] at h;cases h
      ·rw [decide_eq_false h4];exact ⟨h1.1,h1.2,rfl,h3,by omega,rfl⟩
     ·rw [decide_eq_false h3] at h;exact absurd h h3
theorem YX {atoms:List Tm} {rules:List Gr} {lv:Str→Nat} (hin:dZ atoms.length rules) (hn:atoms.length≤64) (hlv:dK (nmS atoms) (dX atoms rules [])=some lv):∀ x∈nmS atoms,lv x<64:=fun x hx=>by
 have h1:=KF hlv;obtain ⟨f,h2,h3⟩:=Gs (E:=dX atoms rules []) (names:=nmS atoms) (Pv hin) (lS.2 ⟨lv,h1⟩);have h4:=(iO hlv).2 f h2 (fun _=>Nat.zero_le _) x;have h5:=h3 x hx;have h6:=OI atoms;omega
theorem CB {atoms:List Tm} {rules:List Gr} {lv:Str→Nat} (hin:dZ atoms.length rules) (hn:atoms.length≤64) (hlv:dK (nmS atoms) (dX atoms rules [])=some lv):∀ s∈fF atoms lv,0≤s∧s≤1000:=fun s hs=>by
 obtain ⟨i,hi,rfl⟩:=List.mem_iff_getElem.1 hs;have hia:i<atoms.length:=by unfold fF at hi;simpa using hi
 have h1:rkI (fF atoms lv) ((i:Nat):Int)=(fF atoms lv)[i]:=by rw [uy (by simpa using hi)];rfl
 rw [← h1,xI (by simpa using hia)];have:=YX hin hn hlv _ (jH (atoms:=atoms) (i:=((i:Nat):Int)) (by simpa using hia));omega
theorem Zx:∃ (ini:List Int),NT cs1.1.1 dJ (ak aN) (aU aN dJ) ini (nextL aN cs1.2 (ak aN)) (jq aN cs1.2 dJ (aU aN dJ)) (l9 aN cs1.2 dJ) (rD aN cs1.2 dJ) (ofV aN cs1.2 dQ []) ∧
  Pure Tryz.prog 9 [gD aN dS,.list (dJ.map enT),.bool false] [.int .i64 34,.int .i64 0] ∧
  Pure Tryz.prog 14 [gD aN dS,.list (dJ.map enT),.bool false] [ig cs1.1.1 dJ (ak aN) (aU aN dJ) ini (nextL aN cs1.2 (ak aN)) (jq aN cs1.2 dJ (aU aN dJ)) ((l9 aN cs1.2 dJ).map aV) ((rD aN cs1.2 dJ).map aV) (ofV aN cs1.2 dQ []) false,.int .i64 0]:=by
 have hf:∀ r∈dS,r.2.1.length+r.2.2.length≤16:=by decide
 obtain ⟨lv,hlv⟩:=Option.isSome_iff_exists.1 Y0;have hS:=Tryz.Qh aN dS ok0 yV (by decide) (by decide) hf;unfold strD at hS;rw [hlv] at hS;have hP:=Tryz.Vt aN dS dJ false 0 _ ok0 (by decide) (by decide) hf ZT (by decide) (fun _=>hS);have hg:jK aN dS dJ 0=(34,0):=by
  unfold jK;rw [yV,Om,given0,JH,Yn];rfl
 rw [hg] at hP;have hsr:=CB (eP yV) (by decide) hlv;have hGr:=Tryz.MI aN dS dJ false _ hP ok0 sh0 yV (by decide) (by decide) hf ZT (by decide) lv hlv hsr;unfold Xn at hGr;rw [Jc Om,JH,VO] at hGr;have hN:=UR (atoms:=aN) (names:=dJ) (rules:=dS) (G:=yD) (holdL (jF aN.length (fF aN lv) dS) (jF aN.length (fF aN lv) dS).length) yV ok0 (by decide) Om (by rw [Yn];decide);rw [VO] at hN;exact ⟨_,hN,hP,hGr⟩
set_option maxRecDepth 10000 in
theorem Tryz.ZF (atoms names:List Tm) (rules:List Gr) (gs:List Gt) (B:List Tm) (Ii:List In) (ini nx lg:List Int) (gl sl:List D) (tm:Int) (hb1:B.length=1) (hi1:Ii.length=1)
  (hSa:Pure Tryz.prog 25 [] [gD atoms rules]) (hAt:Pure Tryz.prog 26 [.str [120]] [.list (names.map enT)])
  (hGs:Pure Tryz.prog 12 [gD atoms rules] [.list (dH yD)]) (hL:Pure Tryz.prog 11 [.list (dH yD),.list (dH yD)] [.bool true])
  (hP:Pure Tryz.prog 9 [gD atoms rules,.list (names.map enT),.bool false] [.int .i64 34,.int .i64 0])
  (hGr:Pure Tryz.prog 14 [gD atoms rules,.list (names.map enT),.bool false] [ig gs names B Ii ini nx lg gl sl tm false,.int .i64 0])
  (hV0:Pure Tryz.prog 27 [ig gs names B Ii ini nx lg gl sl tm false,.list []] [.bool true,.int .i64 0])
  (hV1:Pure Tryz.prog 27 [ig gs names B Ii ini nx lg gl sl tm false,.list [.int .i64 0]] [.bool false,.int .i64 0]) :
  Pure Tryz.prog 8 [] [.bool true]:=by
 refine Pure.of_wp hT (nt:=_) (c:=_) Tryz.func8 rfl rfl rfl rfl (by kernel_rfl) ?_;intro w0 ok0' β0;repeat (refine gw rfl ?_;conv=>whnf)
 refine .inl ⟨_,hSa,.inl rfl,?_⟩;conv=>whnf
 repeat (refine gw rfl ?_;conv=>whnf)
 refine .inl ⟨_,hAt,.inl rfl,?_⟩;conv=>whnf
 iterate 2
  refine gw rfl ?_;conv=>whnf
 refine W2 hT hM [13,14,15,16,17,18,19] ?_;conv=>whnf
 refine .inl ⟨_,hGs,.inl rfl,?_⟩;conv=>whnf
 repeat
  refine ⟨rfl,?_⟩;conv=>whnf
 refine .inl ⟨_,hL,.inl rfl,?_⟩;conv=>whnf
 repeat (refine gw rfl ?_;conv=>whnf)
 refine .inl ⟨_,hP,.inl rfl,?_⟩;conv=>whnf
 repeat (refine gw rfl ?_;conv=>whnf)
 refine .inl ⟨_,hGr,.inl rfl,?_⟩;conv=>whnf
 repeat (refine gw rfl ?_;conv=>whnf)
 rw [List.length_map,hb1];conv=>whnf
 rw [List.length_map,hi1];conv=>whnf
 repeat (refine gw rfl ?_;conv=>whnf)
 refine .inl ⟨_,hV0,.inl rfl,?_⟩;conv=>whnf
 refine gw rfl ?_;conv=>whnf
 refine W2 hT hM [63] ?_;conv=>whnf
 refine ⟨rfl,?_⟩;conv=>whnf
 refine .inl ⟨_,hV1,.inl rfl,?_⟩;conv=>whnf
 repeat (refine gw rfl ?_;conv=>whnf)
 rfl
theorem ZV {gs:List Gt} {nm:List Tm} {B:List Tm} {Ii:List In} {ini nx lg:List Int} {gl sl:List Ot} {tm:Int} (hN:NT gs nm B Ii ini nx lg gl sl tm) (hb1:B.length=1) (st:List Int) (h1:st.length≤1) (h2:∀ x∈st,x=0) (h3:st.Pairwise (·<·)) :
  Pure Tryz.prog 27 [ig gs nm B Ii ini nx lg (gl.map aV) (sl.map aV) tm false,.list (st.map enI)] [.bool (mV (valsF st [] gs) tm),.int .i64 0]:=by
 have hr:=hN.ran tm (by simp);exact Tryz.NV gs nm B Ii ini nx lg gl sl tm false st (valsF st [] gs) hr.1 (by rw [oK];omega)
  (Tryz.Kr gs nm B Ii ini nx lg gl sl tm false st [] hN.len hN.gates (Tryz.checkN false hN) (by omega) (by decide) (fun x hx=>by rw [h2 x hx,hb1];decide) h3 (fun x hx=>by cases hx) .nil)
theorem Tryz.alive:Pure Tryz.prog 8 [] [.bool true]:=by
 obtain ⟨ini,hN,hP,hGr⟩:=Zx;have hGs:=Tryz.groups aN dS ok0 yV (by decide) (by decide) (by decide);rw [JH] at hGs;have hV0:=ZV hN rfl [] (by decide) (fun x hx=>by cases hx) .nil;have hV1:=ZV hN rfl [0] (by decide) (fun x hx=>List.mem_singleton.1 hx) (List.pairwise_singleton _ _);rw [ZK] at hV0;rw [ZJ] at hV1;exact Tryz.ZF aN dJ dS _ _ _ ini _ _ _ _ _ rfl rfl Tryz.sample (Tryz.V7 [120] 5 dJ 1 (by decide) ZP) hGs (Tryz.Sv yD (by decide) (by decide)) hP hGr hV0 hV1
end Go.Proofs.YtdonenoiehdahaaGreat
