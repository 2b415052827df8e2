/- The equality of views, as the reference tells it. -/
import Derived.Test.YtpmapognbdiahaaGreatDoorTnGAnd
import Derived.Test.YtpmapognbdiahaaGreatDoorLnBAnd
import Derived.Deep.RegionHeld3
import Derived.Test.YtpmapognbdiahaaGreatDoorTmMAnd
import Derived.Test.YtpmapognbdiahaaGreatDoorPwAAnd
import Derived.Test.YtpmapognbdiahaaGreatDoorPrAAnd
set_option linter.all false
namespace Go.Proofs
open Go Go.RowKit Go.Shelf Go.Abs Go.Own Go.Proofs.YtpmapognbdiahaaGreatDoor
theorem DY:∀ t:Tm,jD t t=0:=Tm.ind fun t ih=>by
 obtain ⟨n,l⟩:=t;have hl:∀ l:List Tm,(∀ x∈l,jD x x=0)→fQ l l=0:=fun l=>by
  induction l with
  | nil=>intro _;rfl
  | cons x r ihr=>
    intro h;rw [fQ,if_neg (by rw [h x (by simp)];simp)];exact ihr (fun y hy=>h y (by simp [hy]))
 have h1:=hl l (by simpa [Tm.args] using ih);rw [jD];simp [qw,uJ.2,h1]
theorem KY (l:List Tm):fQ l l=0:=by
 induction l with
 | nil=>rfl
 | cons x r ih=>rw [fQ,if_neg (by rw [DY x];simp)];exact ih
set_option maxHeartbeats 2000000 in
set_option maxRecDepth 100000 in
theorem Tryz.aiN (x:Sn) (w:World) (u0 u1 u2 v0 v1 v2:Value) (h1:RdD (fun k=>k<w.heap.size) w (.agg #[u0,u1]) (enT x.1)) (h2:RdD (fun k=>k<w.heap.size) w u2 (.list (x.2.map enT)))
  (h3:RdD (fun k=>k<w.heap.size) w (.agg #[v0,v1]) (enT x.1)) (h4:RdD (fun k=>k<w.heap.size) w v2 (.list (x.2.map enT))) :
  Calls Tryz.prog 21 #[.agg #[u0,u1,u2],.agg #[v0,v1,v2]] w fun e w'=>e = .returned (.int .i64 0)∧Below w.heap.size w w':=by
 have cC:=hid (fun (W:World) (h:Below w.heap.size w W)=>Tryz.aiL x.1 x.1 W _ _ (aO h h1) (aO h h3));have cL:=hid (fun (W:World) (h:Below w.heap.size w W)=>Tryz.aag x.2 x.2 (fun y _=>Tryz.adP y) W _ _ (aO h h2) (aO h h4));rw [DY] at cC;rw [KY] at cL;obtain ⟨⟨s0,rfl⟩,a1,n1,k1,rfl⟩:=JH h1;obtain ⟨⟨s2,rfl⟩,a2,n2,k2,rfl⟩:=JH h3;obtain ⟨a3,k3,rfl,z1⟩:=rdl h2;obtain ⟨a4,k4,rfl,z2⟩:=rdl h4;clear z1 z2 h1 h2 h3 h4;generalize x.2.length=len at *;have hA:=(Below.refl w.heap.size w).alloc (Nat.le_refl _) (.cells #[.string s0,.slice a1 n1 k1,.slice a3 len k3] 44);have hB:=hA.alloc hA.size (.cells #[.string s2,.slice a2 n2 k2,.slice a4 len k4] 44);have e1:=heap_alloc_new (w.alloc (.cells #[.string s0,.slice a1 n1 k1,.slice a3 len k3] 44)) (.cells #[.string s2,.slice a2 n2 k2,.slice a4 len k4] 44);have e0:=(heap_alloc_old (w.alloc (.cells #[.string s0,.slice a1 n1 k1,.slice a3 len k3] 44)) (.cells #[.string s2,.slice a2 n2 k2,.slice a4 len k4] 44) (show w.heap.size<(w.alloc (.cells #[.string s0,.slice a1 n1 k1,.slice a3 len k3] 44)).heap.size by simp)).trans (heap_alloc_new w _);rw [World.size_alloc] at e1;obtain ⟨W0,hW0⟩:∃ W,(w.alloc (.cells #[.string s0,.slice a1 n1 k1,.slice a3 len k3] 44)).alloc (.cells #[.string s2,.slice a2 n2 k2,.slice a4 len k4] 44)=W:=⟨_,rfl⟩
 have hs0:W0.heap.size=w.heap.size+2:=by rw [← hW0];simp
 rw [hW0] at hB e1 e0;have hK:=hid (fun (W:World) (h:Below W0.heap.size W0 W)=>And.intro (aX ((h.block w.heap.size (by omega)).trans e0)) (aX ((h.block (w.heap.size+1) (by omega)).trans e1)));obtain ⟨⟨p0,p1,p2,_⟩,q0,q1,q2,_⟩:=hK.out W0 (Below.refl _ _)
 replace hB:=hid hB
 clear e0 e1 hA hs0
 go_enter Tryz.func21,Tryz.ntmps21
 go_wp2_with (first
  | (go_at_call 59;refine (cC.out _ hB.out).mono ?_;rintro e w1 ⟨rfl,hb1⟩;obtain ⟨⟨r0,r1,r2,_⟩,t0,t1,t2,_⟩:=hK.out w1 hb1;have hB1:=hid (hB.out.trans (hb1.mono hB.out.size));replace hb1:=hid hb1)
  | (go_at_call 60;refine (cL.out _ hB1.out).mono ?_;rintro e w2 ⟨rfl,hb2⟩;have hB2:=hid (hB1.out.trans (hb2.mono hB1.out.size));replace hb2:=hid hb2))
 go_ret
 exact ⟨rfl,hB2.out⟩
theorem XP {l:List Sn} {a:Option Addr} {cap:Nat} {p:Nat→Prop} {q:Nat→Nat→Prop} (h:l=[]∨∃ b o,a=some ⟨b,o,none⟩∧p b∧l.length≤cap∧cap≤maxLen∧q b o):l.length≤9223372036854775807:=by
 rcases h with rfl | ⟨b,o,_,_,h1,h2,_⟩
 ·simp
 ·simp only [maxLen] at h2;omega
set_option maxHeartbeats 2000000 in
set_option maxRecDepth 100000 in
theorem Tryz.Jz (l:List Sn) (w:World) (v u:Value) (hv:RdD (fun k=>k<w.heap.size) w v (.list (l.map enS))) (hu:RdD (fun k=>k<w.heap.size) w u (.list (l.map enS))) :
  Calls Tryz.prog 7 #[v,u] w fun e w'=>e = .returned (.bool true)∧Below w.heap.size w w':=by
 obtain ⟨a,cap,rfl,hcs⟩:=rdv hv;obtain ⟨a2,cap2,rfl,hcs2⟩:=rdv hu;have hl1:=XP hcs
 replace hcs:=hid hcs
 replace hcs2:=hid hcs2
 clear hv hu
 go_enter Tryz.func7,Tryz.ntmps7
 go_wp2_with fail
 go_loopw [5] (fun vi wr=>∃ i:Nat,vi = .int .i64 i∧i≤l.length∧Hid (Below w.heap.size w wr)) (fun vi _=>l.length-(intOf vi).toNat)
 case atStart=>exact ⟨0,rfl,Nat.zero_le _,hid (Below.refl _ _)⟩
 case round=>
  obtain ⟨i,rfl,hi,hB⟩:=hrel;by_cases h1:i<l.length
  ·obtain ⟨b,o,rfl,hb,hlc,hcm,hcs⟩:=hcs.out.resolve_left (fun h=>by rw [h] at h1;simp at h1);obtain ⟨b2,o2,rfl,hb2,hlc2,hcm2,hcs2⟩:=hcs2.out.resolve_left (fun h=>by rw [h] at h1;simp at h1);obtain ⟨u0,u1,u2,c0,c1,c2,hr1,hr2⟩:=hcs i h1;obtain ⟨v0,v1,v2,d0,d1,d2,hr3,hr4⟩:=hcs2 i h1;have c0:=(hB.out.cell (p:=⟨b,o+i*3,none⟩) hb).trans c0;have c1:=(hB.out.cell (p:=⟨b,o+i*3+1,none⟩) hb).trans c1;have c2:=(hB.out.cell (p:=⟨b,o+i*3+2,none⟩) hb).trans c2;have d0:=(hB.out.cell (p:=⟨b2,o2+i*3,none⟩) hb2).trans d0;have d1:=(hB.out.cell (p:=⟨b2,o2+i*3+1,none⟩) hb2).trans d1;have d2:=(hB.out.cell (p:=⟨b2,o2+i*3+2,none⟩) hb2).trans d2;have cC:=hid (fun (W:World) (h:Below wr.heap.size wr W)=>Tryz.aiN l[i] W u0 u1 u2 v0 v1 v2 (aO h (aO hB.out hr1)) (aO h (aO hB.out hr2)) (aO h (aO hB.out hr3)) (aO h (aO hB.out hr4)));clear hcs hcs2 hr1 hr2 hr3 hr4;simp only [maxLen] at hcm hcm2;have h11:=hid h1;have hbl:b<wr.heap.size:=Nat.lt_of_lt_of_le hb hB.out.size;have hbl2:b2<wr.heap.size:=Nat.lt_of_lt_of_le hb2 hB.out.size
   go_wp2_with fail
   go_region_held3 (fun w'=>w'.cell? ⟨b,o+i*3,none⟩=some u0∧w'.cell? ⟨b,o+i*3+1,none⟩=some u1∧w'.cell? ⟨b,o+i*3+2,none⟩=some u2∧w'.cell? ⟨b2,o2+i*3,none⟩=some v0∧w'.cell? ⟨b2,o2+i*3+1,none⟩=some v1∧w'.cell? ⟨b2,o2+i*3+2,none⟩=some v2) (go_keep) (first | (go_at_call 21;refine (cC.out _ (Below.refl _ wr).drew).mono ?_;rintro e w1 ⟨rfl,hb1⟩;have m0:=jC hb1 hbl c0;have m1:=jC hb1 hbl c1;have m2:=jC hb1 hbl c2;have m3:=jC hb1 hbl2 d0;have m4:=jC hb1 hbl2 d1;have m5:=jC hb1 hbl2 d2;replace hb1:=hid hb1))
   all_goals go_wp2_with fail
   exact ⟨⟨i+1,by go_num,h11.out,hid (hB.out.trans ((Below.refl _ wr).drew.trans hb1.out |>.mono hB.out.size))⟩,by have:=h11.out;simp [intOf];omega⟩
  ·go_wp2_with fail
   go_ret
   exact ⟨rfl,hB.out⟩
set_option maxHeartbeats 1000000 in
set_option maxRecDepth 100000 in
theorem Tryz.sU:AO Tryz.prog 316 dB:=fun c w=>by
 have hn:dB c=true↔_:=pY;generalize dB c=b at hn;have hc0:(0:Int)≤c.toNat:=by omega
 generalize (c.toNat:Int)=k at hn hc0
 go_enter Tryz.func316,Tryz.ntmps316
 go_wp2
 all_goals go_ret
 all_goals refine ⟨?_,Below.refl _ _⟩
 all_goals
  change Ending.returned (.bool _)=Ending.returned (.bool b);refine congrArg (fun b=>Ending.returned (.bool b)) ?_;rw [Bool.eq_iff_iff,hn];simp
  try omega
set_option maxHeartbeats 1000000 in
set_option maxRecDepth 100000 in
theorem Tryz.oM:AO Tryz.prog 314 eP:=fun c w=>by
 have hn:eP c=true↔_:=D6;generalize eP c=b at hn;generalize (c.toNat:Int)=k at hn
 go_enter Tryz.func314,Tryz.ntmps314
 go_wp2
 all_goals go_ret
 all_goals refine ⟨?_,Below.refl _ _⟩
 all_goals
  change Ending.returned (.bool _)=Ending.returned (.bool b);refine congrArg (fun b=>Ending.returned (.bool b)) ?_;rw [Bool.eq_iff_iff,hn];simp
  try omega
set_option maxHeartbeats 1000000 in
set_option maxRecDepth 100000 in
theorem Tryz.JD:AO Tryz.prog 315 qE:=fun c w=>by
 have hn:qE c=true↔_:=Lu;generalize qE c=b at hn;generalize (c.toNat:Int)=k at hn
 go_enter Tryz.func315,Tryz.ntmps315
 go_wp2
 all_goals go_ret
 all_goals refine ⟨?_,Below.refl _ _⟩
 all_goals
  change Ending.returned (.bool _)=Ending.returned (.bool b);refine congrArg (fun b=>Ending.returned (.bool b)) ?_;rw [Bool.eq_iff_iff,hn];simp
  try omega
set_option maxHeartbeats 1000000 in
set_option maxRecDepth 100000 in
theorem Tryz.Xp (s:Str) (w:World):Calls Tryz.prog 349 #[.string ⟨s.toArray⟩] w fun e w'=>e = .returned (.bool (decide (s=sIf∨s=iM∨s=iK)))∧Below w.heap.size w w':=by
 have hn:(decide (s=sIf∨s=iM∨s=iK)=true)↔s=[105,102]∨s=[97,110,100]∨s=[110,111,116]:=decide_eq_true_iff;generalize decide (s=sIf∨s=iM∨s=iK)=b at hn
 go_enter Tryz.func349,Tryz.ntmps349
 go_wp2
 all_goals go_ret
 all_goals refine ⟨?_,Below.refl _ _⟩
 all_goals
  change Ending.returned (.bool _)=Ending.returned (.bool b);refine congrArg (fun b=>Ending.returned (.bool b)) ?_;rw [Bool.eq_iff_iff,hn];simp_all
set_option maxHeartbeats 1000000 in
set_option maxRecDepth 100000 in
theorem Tryz.xU (s:Str) (hs:s.length≤16384) (w:World):Calls Tryz.prog 317 #[.string ⟨s.toArray⟩] w fun e w'=>e = .returned (.int .i64 (dG s))∧Below w.heap.size w w':=by
 have cN:∀ w,Calls Tryz.prog 180 #[.string ⟨s.toArray⟩] w fun e w'=>e = .returned (.tuple #[.int .i64 (oQ s),.bool (bM s)])∧Below w.heap.size w w':=fun w=>(Tryz.TI s w).mono fun e w' ⟨he,hw⟩=>⟨he,hw ▸ Below.refl _ _⟩
 have cA:∀ w,Calls Tryz.prog 256 #[.string ⟨s.toArray⟩] w fun e w'=>e = .returned (.bool (nameB s))∧Below w.heap.size w w':=fun w=>(Tryz.aew s w).mono fun e w' ⟨he,hw⟩=>⟨he,hw ▸ Below.refl _ _⟩
 have cV:∀ w,Calls Tryz.prog 179 #[.string ⟨s.toArray⟩] w fun e w'=>e = .returned (.bool (iH s))∧Below w.heap.size w w':=fun w=>(Tryz.adY s w).mono fun e w' ⟨he,hw⟩=>⟨he,hw ▸ Below.refl _ _⟩
 have cW:=fun w1=>Tryz.Xp s w1
 have hk:dG s=if decide (s=sIf∨s=iM∨s=iK)=true then 5 else if nameB s=true then 1 else if bM s=true then 2 else if iH s=true then 3 else 0:=by
  unfold dG;simp only [decide_eq_true_eq]
 generalize decide (s=sIf∨s=iM∨s=iK)=bw at cW hk;generalize nameB s=bn at cA hk;generalize bM s=bm at cN hk;generalize iH s=bv at cV hk;generalize dG s=k at hk ⊢;subst hk
 go_enter Tryz.func317,Tryz.ntmps317
 cases bw<;>cases bn<;>cases bm<;>cases bv <;>
  (go_wp2_with (first
   | (go_at_call 180;refine (cN _).mono ?_;rintro e w1 ⟨rfl,hb1⟩)
   | (go_at_call 349;refine (cW w1).mono ?_;rintro e w2 ⟨rfl,hb2⟩)
   | (go_at_call 256;refine (cA w2).mono ?_;rintro e w3 ⟨rfl,hb3⟩)
   | (go_at_call 179;refine (cV w3).mono ?_;rintro e w4 ⟨rfl,hb4⟩)))<;>go_ret
 all_goals first
  | exact ⟨rfl,((hb1.trans (hb2.mono hb1.size)).trans (hb3.mono (Nat.le_trans hb1.size hb2.size))).trans (hb4.mono (Nat.le_trans (Nat.le_trans hb1.size hb2.size) hb3.size))⟩
  | exact ⟨rfl,(hb1.trans (hb2.mono hb1.size)).trans (hb3.mono (Nat.le_trans hb1.size hb2.size))⟩
  | exact ⟨rfl,hb1.trans (hb2.mono hb1.size)⟩
set_option maxHeartbeats 1000000 in
set_option maxRecDepth 100000 in
theorem Tryz.aec (s:Str) (hs:s.length≤16384) (w:World):Calls Tryz.prog 250 #[.string ⟨s.toArray⟩] w (qC s w):=by
 go_enter Tryz.func250,Tryz.ntmps250
 go_wp2_with fail
 go_loopw [5,6] (fun vo va wr=>∃ (i:Nat) (out:List Tk),va = .int .i64 i∧Hid (eU s i out)∧Hid (bV w.heap.size 231 3 wr vo (out.map enK))∧Hid (Below w.heap.size w wr)) (fun _ va _=>s.length-(intOf va).toNat)
 case atStart=>exact ⟨0,[],rfl,hid (eU.start s),hid .nil,hid (Below.refl _ _)⟩
 case round=>
  obtain ⟨i,out,rfl,hinv,hRow,hB⟩:=hrel;have hli:=hinv.out.1;have hlo:=hinv.out.2.1;by_cases hlt:i<s.length
  ·have hix:=fun w=>dA (P:=Tryz.prog) Tryz.underlying9 hlt w
   obtain ⟨c,hc⟩:∃ c,s[i]=c:=⟨_,rfl⟩
   rw [hc] at hix;have HL:=hid hlt;have hready:=hid (fun (W:World) (vo:Value) (h:bV w.heap.size 231 3 W vo (out.map enK)) (hz:w.heap.size≤W.heap.size) (x:Tk) (kk:Int) (hk:kk=x.1) (hx:x.2.1.length≤16384)=>h.ready hz (Nat.le_refl _) (fun _ _ _=>rfl) _ _ (rdK x kk hk (by simp only [maxLen];omega)));by_cases hb:eP c=true
   ·have hnx:=hid (hinv.out.blank hlt (by rw [hc];exact hb))
    go_wp2_with (go_at_call 314;refine (Tryz.oM c wr).mono ?_;rintro e w1 ⟨rfl,hb1⟩;rw [hb];have B1:=hid (hB.out.trans (hb1.mono hB.out.size));have R1:=hid (hRow.out.keep hb1.size (fun b _ hb2=>hb1.block b hb2)))
    go_roundw
    case rel=>exact ⟨i+1,out,by go_num,hnx,R1,B1⟩
    case measure=>have:=HL.out;simp [intOf];omega
   ·have hb:eP c=false:=(by simpa using hb);by_cases hh:c=35
    ·have hnx:=hid (hinv.out.hash hlt (by rw [hc];exact hb) (by rw [hc];exact hh));have hc35:(c.toNat:Int)=35:=(by rw [hh];rfl);have cB:=Tryz.oM c wr;rw [hc35,hb] at cB
     replace cB:=hid cB
     go_wp2_with (go_at_call 314;refine cB.out.mono ?_;rintro e w1 ⟨rfl,hb1⟩;have B1:=hid (hB.out.trans (hb1.mono hB.out.size));have R1:=hid (hRow.out.keep hb1.size (fun b _ hb2=>hb1.block b hb2)))
     go_loopw [8] (fun ve wq=>∃ k:Nat,ve = .int .i64 k∧i<k∧k≤s.length∧Hid (bQ (· != 10) s (i+1)=bQ (· != 10) s k)∧Hid (bV w.heap.size 231 3 wq u5 (out.map enK))∧Hid (Below w.heap.size w wq)) (fun ve _=>s.length-(intOf ve).toNat)
     case atStart=>exact ⟨i+1,by go_num,by omega,hlt,rfl,R1,B1⟩
     case round=>
      obtain ⟨k,rfl,hik,hk,hsk,hRow,hB⟩:=hrel;by_cases hkl:k<s.length
      ·have hix2:=fun w=>dA (P:=Tryz.prog) Tryz.underlying9 hkl w
       have hn:=jM (p:=(· != 10)) hkl;have hst:=uY (p:=(· != 10)) hkl;obtain ⟨d,hd⟩:∃ d,s[k]=d:=⟨_,rfl⟩
       rw [hd] at hix2 hn hst;by_cases h10:d=10
       ·have hd10:(d.toNat:Int)=10:=(by rw [h10];rfl);have hke:=hid (hsk.out.trans (hst (by rw [h10];rfl)))
        replace hn:=hid hn
        replace hst:=hid hst
        replace h10:=hid h10
        go_wp2_with fail
        go_roundw
        case rel=>exact ⟨k,out,rfl,by rw [← hke.out];exact hnx,hRow,hB⟩
        case measure=>have:=HL.out;simp [intOf];omega
       ·have hd10:(d.toNat:Int)≠10:=fun e=>h10 (by rw [← UInt8.toNat_inj];have:(10:UInt8).toNat=10:=rfl;omega)
        have hke:=hid (hsk.out.trans (hn (by simpa using h10)));have HK:=hid hkl
        replace hn:=hid hn
        replace hst:=hid hst
        replace h10:=hid h10
        go_wp2_with fail
        go_roundw
        case rel=>exact ⟨k+1,by go_num,by omega,by have:=HK.out;omega,hke,hRow,hB⟩
        case measure=>have:=HK.out;simp [intOf];omega
      ·have hke:=hid (hsk.out.trans (yJ (by omega)))
       go_wp2_with fail
       go_roundw
       case rel=>exact ⟨k,out,rfl,by rw [← hke.out];exact hnx,hRow,hB⟩
       case measure=>have:=HL.out;simp [intOf];omega
    ·have hc35:(c.toNat:Int)≠35:=fun e=>hh (by rw [← UInt8.toNat_inj];have:(35:UInt8).toNat=35:=rfl;omega)
     by_cases hr:dB c=true
     ·have hsy:qE c=false:=by
       rw [pY] at hr;rw [Bool.eq_false_iff,ne_eq,Lu];omega
      have hbad:=hinv.out.RN hlt (by rw [hc];exact hr);have hgo:=hinv.out.run hlt (by rw [hc];exact hr);have hsk0:bQ dB s i=bQ dB s (i+1):=jM hlt (by rw [hc];exact hr);rw [hsk0] at hbad hgo
      replace hbad:=hid hbad
      replace hgo:=hid hgo
      go_wp2_with (first
       | (go_at_call 314;refine (Tryz.oM c wr).mono ?_;rintro e w1 ⟨rfl,hb1⟩;rw [hb];have B1:=hid (hB.out.trans (hb1.mono hB.out.size));have R1:=hid (hRow.out.keep hb1.size (fun b _ hb2=>hb1.block b hb2)))
       | (go_at_call 315;refine (Tryz.JD c w1).mono ?_;rintro e w2 ⟨rfl,hb2⟩;rw [hsy];have B2:=hid (B1.out.trans (hb2.mono B1.out.size));have R2:=hid (R1.out.keep hb2.size (fun b _ hb3=>hb2.block b hb3)))
       | (go_at_call 316;refine (Tryz.sU c w2).mono ?_;rintro e w3 ⟨rfl,hb3⟩;rw [hr];have B3:=hid (B2.out.trans (hb3.mono B2.out.size));have R3:=hid (R2.out.keep hb3.size (fun b _ hb4=>hb3.block b hb4))))
      go_loopw [8] (fun ve wq=>∃ k:Nat,ve = .int .i64 k∧i<k∧k≤s.length∧Hid (bQ dB s (i+1)=bQ dB s k)∧Hid (bV w.heap.size 231 3 wq u5 (out.map enK))∧Hid (Below w.heap.size w wq)) (fun ve _=>s.length-(intOf ve).toNat)
      case atStart=>exact ⟨i+1,by go_num,by omega,hlt,rfl,R3,B3⟩
      case round=>
       obtain ⟨k,rfl,hik,hk,hsk,hRow,hB⟩:=hrel;by_cases hkl:k<s.length
       ·have hix2:=fun w=>dA (P:=Tryz.prog) Tryz.underlying9 hkl w
        have hn:=jM (p:=dB) hkl;have hst:=uY (p:=dB) hkl;obtain ⟨d,hd⟩:∃ d,s[k]=d:=⟨_,rfl⟩
        rw [hd] at hix2 hn hst;by_cases hrd:dB d=true
        ·have hke:=hid (hsk.out.trans (hn hrd));have HK:=hid hkl
         replace hn:=hid hn
         replace hst:=hid hst
         go_wp2_with (go_at_call 316;refine (Tryz.sU d wr).mono ?_;rintro e w4 ⟨rfl,hb4⟩;rw [hrd];have B4:=hid (hB.out.trans (hb4.mono hB.out.size));have R4:=hid (hRow.out.keep hb4.size (fun b _ hb5=>hb4.block b hb5)))
         go_roundw
         case rel=>exact ⟨k+1,by go_num,by omega,by have:=HK.out;omega,hke,R4,B4⟩
         case measure=>have:=HK.out;simp [intOf];omega
        ·have hrd:dB d=false:=(by simpa using hrd);have hke:=hid (hsk.out.trans (hst hrd))
         replace hn:=hid hn
         replace hst:=hid hst
         have hsl:=fun w=>str_slice (P:=Tryz.prog) Tryz.underlying9 (Nat.le_of_lt hik) hk w
         obtain ⟨run,hrun⟩:∃ run,(s.drop i).take (k-i)=run:=⟨_,rfl⟩
         have hb0:=hbad.out;have hg0:=hgo.out;rw [hke.out,hrun] at hb0 hg0;rw [hrun] at hsl;have hrl:run.length≤16384:=(by rw [← hrun];simp only [List.length_take,List.length_drop];omega);by_cases hk0:dG run=0
         ·replace hb0:=hid (hb0 hk0)
          go_wp2_with (first | (go_at_call 316;refine (Tryz.sU d wr).mono ?_;rintro e w4 ⟨rfl,hb4⟩;rw [hrd];have B4:=hid (hB.out.trans (hb4.mono hB.out.size));have R4:=hid (hRow.out.keep hb4.size (fun b _ hb5=>hb4.block b hb5))) | (go_at_call 317;refine (Tryz.xU run hrl w4).mono ?_;rintro e w5 ⟨rfl,hb5⟩;rw [hk0];have B5:=hid (B4.out.trans (hb5.mono B4.out.size))))
          go_ret3
          exact .inr ⟨hb0.out,_,4,by decide,rfl,B5.out⟩
         ·have hnx:=hid (hg0 hk0).2;have hkn:(dG run:Int)≠0:=(by omega);obtain ⟨kk,hkk⟩:∃ kk,dG run=kk:=⟨_,rfl⟩
          rw [hkk] at hkn hnx
          go_wp2_with (first | (go_at_call 316;refine (Tryz.sU d wr).mono ?_;rintro e w4 ⟨rfl,hb4⟩;rw [hrd];have B4:=hid (hB.out.trans (hb4.mono hB.out.size));have R4:=hid (hRow.out.keep hb4.size (fun b _ hb5=>hb4.block b hb5))) | (go_at_call 317;refine (Tryz.xU run hrl w4).mono ?_;rintro e w5 ⟨rfl,hb5⟩;rw [hkk];have B5:=hid (B4.out.trans (hb5.mono B4.out.size));obtain ⟨r1,r2,r3⟩:=hready.out w5 u5 (R4.out.keep hb5.size (fun b _ hb6=>hb5.block b hb6)) B5.out.size (kk,run,i) kk rfl hrl;replace r1:=hid r1;replace r3:=hid r3;have hz2:=B5.out.size) | (at_builtin;refine dP rfl _ _ _ rfl Tryz.rY rfl r1.out _ _ rfl (enK (kk,run,i)) _ rfl r2 rfl r3.out ?_ ?_ ?_;rotate_left 2;intro g7 c7 w7 hr7 hg7;rotate_left;rw [List.length_map];omega;simp;omega;refine Hid.out ?_))
          have B7:=hid (B5.out.trans (r1.out.below hg7 hz2));rw [List.length_map] at hr7
          replace hr7:=hid hr7
          clear hg7 r1 r2 r3;refine hid ?_
          go_wp2_with fail
          go_roundw
          case rel=>exact ⟨k,out++[(kk,run,i)],rfl,hnx,by rw [List.map_append];exact hr7,B7⟩
          case measure=>have:=HL.out;simp [intOf];omega
       ·have hke:=hid (hsk.out.trans (yJ (by omega)));have hsl:=fun w=>str_slice (P:=Tryz.prog) Tryz.underlying9 (Nat.le_of_lt hik) hk w
        obtain ⟨run,hrun⟩:∃ run,(s.drop i).take (k-i)=run:=⟨_,rfl⟩
        have hb0:=hbad.out;have hg0:=hgo.out;rw [hke.out,hrun] at hb0 hg0;rw [hrun] at hsl;have hrl:run.length≤16384:=(by rw [← hrun];simp only [List.length_take,List.length_drop];omega);by_cases hk0:dG run=0
        ·replace hb0:=hid (hb0 hk0)
         go_wp2_with (first | (go_at_call 317;refine (Tryz.xU run hrl wr).mono ?_;rintro e w5 ⟨rfl,hb5⟩;rw [hk0];have B5:=hid (hB.out.trans (hb5.mono hB.out.size))))
         go_ret3
         exact .inr ⟨hb0.out,_,4,by decide,rfl,B5.out⟩
        ·have hnx:=hid (hg0 hk0).2;have hkn:(dG run:Int)≠0:=(by omega);obtain ⟨kk,hkk⟩:∃ kk,dG run=kk:=⟨_,rfl⟩
         rw [hkk] at hkn hnx
         go_wp2_with (first | (go_at_call 317;refine (Tryz.xU run hrl wr).mono ?_;rintro e w5 ⟨rfl,hb5⟩;rw [hkk];have B5:=hid (hB.out.trans (hb5.mono hB.out.size));obtain ⟨r1,r2,r3⟩:=hready.out w5 u5 (hRow.out.keep hb5.size (fun b _ hb6=>hb5.block b hb6)) B5.out.size (kk,run,i) kk rfl hrl;replace r1:=hid r1;replace r3:=hid r3;have hz2:=B5.out.size) | (at_builtin;refine dP rfl _ _ _ rfl Tryz.rY rfl r1.out _ _ rfl (enK (kk,run,i)) _ rfl r2 rfl r3.out ?_ ?_ ?_;rotate_left 2;intro g7 c7 w7 hr7 hg7;rotate_left;rw [List.length_map];omega;simp;omega;refine Hid.out ?_))
         have B7:=hid (B5.out.trans (r1.out.below hg7 hz2));rw [List.length_map] at hr7
         replace hr7:=hid hr7
         clear hg7 r1 r2 r3;refine hid ?_
         go_wp2_with fail
         go_roundw
         case rel=>exact ⟨k,out++[(kk,run,i)],rfl,hnx,by rw [List.map_append];exact hr7,B7⟩
         case measure=>have:=HL.out;simp [intOf];omega
     ·have hr:dB c=false:=(by simpa using hr);by_cases hsy:qE c=true
      ·have hnx:=hid (hinv.out.sym hlt (by rw [hc];exact hb) (by rw [hc];exact hh) (by rw [hc];exact hr) (by rw [hc];exact hsy));rw [hc] at hnx;have h1:(s.drop i).take (i+1-i)=[c]:=(by rw [List.drop_eq_getElem_cons hlt,hc,Nat.add_sub_cancel_left];rfl);have hsl:∀ w,(Instr.slice 9 (.string ⟨s.toArray⟩) (some (.int .i64 i)) (some (.int .i64 ((i:Int)+1))) none).run Tryz.prog w = .ok (.string ⟨[c].toArray⟩) w:=fun w=>by
        rw [← h1];exact str_slice (P:=Tryz.prog) Tryz.underlying9 (Nat.le_succ i) hlt w
       go_wp2_with (first
        | (go_at_call 314;refine (Tryz.oM c wr).mono ?_;rintro e w1 ⟨rfl,hb1⟩;rw [hb];have B1:=hid (hB.out.trans (hb1.mono hB.out.size));have R1:=hid (hRow.out.keep hb1.size (fun b _ hb2=>hb1.block b hb2)))
        | (go_at_call 315;refine (Tryz.JD c w1).mono ?_;rintro e w2 ⟨rfl,hb2⟩;rw [hsy];have B2:=hid (B1.out.trans (hb2.mono B1.out.size));have R2:=hid (R1.out.keep hb2.size (fun b _ hb3=>hb2.block b hb3));obtain ⟨r1,r2,r3⟩:=hready.out w2 u5 R2.out B2.out.size (4,[c],i) 4 rfl (by simp);have hz2:=B2.out.size;replace r1:=hid r1;replace r3:=hid r3)
        | (at_builtin;refine dP rfl _ _ _ rfl Tryz.rY rfl r1.out _ _ rfl (enK (4,[c],i)) _ rfl r2 rfl r3.out ?_ ?_ ?_;rotate_left 2;intro g7 c7 w7 hr7 hg7;rotate_left;rw [List.length_map];omega;simp;omega;refine Hid.out ?_))
       have hz2:=B2.out.size;have B7:=hid (B2.out.trans (r1.out.below hg7 hz2));rw [List.length_map] at hr7
       replace hr7:=hid hr7
       clear hg7 r1 r2 r3;refine hid ?_
       go_wp2_with fail
       go_roundw
       case rel=>exact ⟨i+1,out++[(4,[c],i)],by go_num,hnx,by rw [List.map_append];exact hr7,B7⟩
       case measure=>have:=HL.out;simp [intOf];omega
      ·have hsy:qE c=false:=(by simpa using hsy);have hbad:=hid (hinv.out.bad hlt (by rw [hc];exact hb) (by rw [hc];exact hh) (by rw [hc];exact hr) (by rw [hc];exact hsy))
       go_wp2_with (first
        | (go_at_call 314;refine (Tryz.oM c wr).mono ?_;rintro e w1 ⟨rfl,hb1⟩;rw [hb];have B1:=hid (hB.out.trans (hb1.mono hB.out.size));have R1:=hid (hRow.out.keep hb1.size (fun b _ hb2=>hb1.block b hb2)))
        | (go_at_call 315;refine (Tryz.JD c w1).mono ?_;rintro e w2 ⟨rfl,hb2⟩;rw [hsy];have B2:=hid (B1.out.trans (hb2.mono B1.out.size));have R2:=hid (R1.out.keep hb2.size (fun b _ hb3=>hb2.block b hb3)))
        | (go_at_call 316;refine (Tryz.sU c w2).mono ?_;rintro e w3 ⟨rfl,hb3⟩;rw [hr];have B3:=hid (B2.out.trans (hb3.mono B2.out.size));have R3:=hid (R2.out.keep hb3.size (fun b _ hb4=>hb3.block b hb4))))
       go_ret3
       exact .inr ⟨hbad.out,_,1,by decide,rfl,B3.out⟩
  ·have hie:i=s.length:=(by omega);have hfin:=hid (hinv.out.fin hlt);obtain ⟨r1,r2,r3⟩:=hRow.out.ready hB.out.size (Nat.le_refl _) (fun _ _ _=>rfl) _ _ (rdK (0,[],s.length) 0 rfl (by simp))
   replace r1:=hid r1
   replace r3:=hid r3
   have hz:=hB.out.size;subst hie
   go_wp2_with (at_builtin;refine dP rfl _ _ _ rfl Tryz.rY rfl r1.out _ _ rfl (enK (0,[],s.length)) _ rfl r2 rfl r3.out ?_ ?_ ?_;rotate_left 2;intro g7 c7 w7 hr7 hg7;rotate_left;rw [List.length_map];omega;simp;omega;refine Hid.out ?_)
   have hz2:=hB.out.size;have B7:=hid (hB.out.trans (r1.out.below hg7 hz2));rw [List.length_map] at hr7
   replace hr7:=hid hr7
   clear hg7 r1 r2 r3;refine hid ?_
   go_wp2_with fail
   go_ret3
   refine .inl ⟨_,_,hfin.out,rfl,?_,B7.out⟩;rw [List.map_append];exact hr7.out.rd (by decide)
structure Tryz.Rr (rb tb o cap:Nat) (l:List Tk) (w:World) (i:Nat) (at0 e0:Int):Prop where
 cell:w.heap[rb]?=some (.cells #[.slice (some ⟨tb,o,none⟩) l.length cap,.int .i64 i,.int .i64 at0,.int .i64 e0] 237 (0,0))
 toks:Q5 w tb o l
 lt:tb<w.heap.size
 ne:tb≠rb
 len:l.length≤1000000
 cap:l.length≤cap∧cap≤maxLen
section
variable {rb tb o cap:Nat} {l:List Tk} {w w':World} {i B:Nat} {at0 e0:Int} (h:Tryz.Rr rb tb o cap l w i at0 e0)
include h
theorem Tryz.Rr.keep (hk:Below B w w') (hr:rb<B) (ht:tb<B):Tryz.Rr rb tb o cap l w' i at0 e0:=
 ⟨(hk.block rb hr).trans h.cell,h.toks.keep (hk.block tb ht),Nat.lt_of_lt_of_le h.lt hk.size,h.ne,h.len,h.cap⟩
theorem Tryz.Rr.cells:w.cell? ⟨rb,0,none⟩=some (.slice (some ⟨tb,o,none⟩) l.length cap)∧w.cell? ⟨rb,1,none⟩=some (.int .i64 i)∧w.cell? ⟨rb,2,none⟩=some (.int .i64 at0)∧w.cell? ⟨rb,3,none⟩=some (.int .i64 e0):=by simp [World.cell?,h.cell]
theorem Tryz.Rr.fz (j:Nat):w.frozen? ⟨rb,j,none⟩=false:=by simp [World.frozen?,h.cell]
theorem Tryz.Rr.step (n:Int) (j:Nat) (hn:n=j):Tryz.Rr rb tb o cap l (w.setCell ⟨rb,1,none⟩ (.int .i64 n)) j at0 e0:=by
 subst hn;exact ⟨bC 1 _ h.cell,h.toks.keep (aA _ _ _ h.ne),by simpa [World.setCell] using h.lt,h.ne,h.len,h.cap⟩
theorem Tryz.Rr.put (p:Addr) (v:Value) (h1:rb≠p.block) (h2:tb≠p.block):Tryz.Rr rb tb o cap l (w.setCell p v) i at0 e0:=
 ⟨(aA w p v h1).trans h.cell,h.toks.keep (aA w p v h2),by simpa [World.setCell] using h.lt,h.ne,h.len,h.cap⟩
theorem Tryz.Rr.drew:Tryz.Rr rb tb o cap l w.drew i at0 e0:=⟨h.cell,fun i hi=>h.toks i hi,h.lt,h.ne,h.len,h.cap⟩
theorem Tryz.Rr.fA:rb<w.heap.size:=(Array.getElem?_eq_some_iff.1 h.cell).1
theorem Tryz.Rr.pos:posOf rb w=i:=by rw [posOf,h.cells.2.1];rfl
variable (hi:i<l.length)
include hi
set_option maxHeartbeats 1000000 in
set_option maxRecDepth 100000 in
theorem Tryz.Ew:Calls Tryz.prog 251 #[.pointer (some ⟨rb,0,none⟩)] w fun e w'=>e = .returned (.bool (dZ (l.drop i)))∧Below w.heap.size w w':=by
 obtain ⟨c0,c1,c2,_⟩:=h.toks i hi;obtain ⟨d0,d1,d2,d3⟩:=h.cells;have hl:=h.len;have hc:=h.cap;simp only [maxLen] at hc;rw [pz hi];generalize l[i].1=k at c0;generalize l[i].2.1=t at c1;generalize l[i].2.2=n at c2
 go_enter Tryz.func251,Tryz.ntmps251
 go_wp2
 go_region
 all_goals go_wp2
 all_goals go_ret
 all_goals refine ⟨?_,(Below.refl _ w).drew⟩
 all_goals
  change Ending.returned (.bool _)=Ending.returned (.bool _);refine congrArg (fun b=>Ending.returned (.bool b)) ?_;rw [Bool.eq_iff_iff];simp
  try omega
set_option maxHeartbeats 1000000 in
set_option maxRecDepth 100000 in
theorem Tryz.rIs (s:Str):Calls Tryz.prog 318 #[.pointer (some ⟨rb,0,none⟩),.string ⟨s.toArray⟩] w fun e w'=>e = .returned (.bool (decide (e0=0)&&cZ s (l.drop i)))∧Below w.heap.size w w':=by
 obtain ⟨c0,c1,c2,_⟩:=h.toks i hi;obtain ⟨d0,d1,d2,d3⟩:=h.cells;have hl:=h.len;have hc:=h.cap;have hrl:=h.fA;have htl:=h.lt;simp only [maxLen] at hc;rw [vT hi];generalize l[i].1=k at c0;generalize l[i].2.1=t at c1;generalize l[i].2.2=n at c2
 go_enter Tryz.func318,Tryz.ntmps318
 go_wp2
 go_region
 have hB:Below w.heap.size w (w.alloc (.cells #[.int .i64 k,.string ⟨t.toArray⟩,.int .i64 n] 231)):=(Below.refl _ w).alloc (Nat.le_refl _) _;have d3':=(hB.cell (p:=⟨rb,3,none⟩) hrl).trans d3;by_cases he:e0=0
 ·subst he
  go_wp2
  all_goals go_ret
  all_goals refine ⟨?_,((Below.refl _ w).alloc (Nat.le_refl _) _).drew⟩
  ·obtain rfl:k=4:=by omega
   rfl
  ·obtain rfl:k=5:=by omega
   rfl
  ·rw [show (k==4)=false from by simp;omega,show (k==5)=false from by simp;omega];rfl
 ·have he0:(e0==0)=false:=by simpa using he
  go_wp2
  go_ret
  refine ⟨?_,((Below.refl _ w).alloc (Nat.le_refl _) _).drew⟩;rw [decide_eq_false he];rfl
set_option maxHeartbeats 1000000 in
set_option maxRecDepth 100000 in
theorem Tryz.G8 (x:Int):Calls Tryz.prog 252 #[.pointer (some ⟨rb,0,none⟩),.int .i64 x] w fun e w'=>e = .returned (.tuple #[])∧(∃ a1,Tryz.Rr rb tb o cap l w' i a1 (if e0=0 then x else e0))∧Kp w.heap.size rb w w':=by
 obtain ⟨c0,c1,c2,_⟩:=h.toks i hi;obtain ⟨d0,d1,d2,d3⟩:=h.cells;have hl:=h.len;have hc:=h.cap;have hrl:=h.fA;have htl:=h.lt;have f2:=h.fz 2;have f3:=h.fz 3;simp only [maxLen] at hc;generalize l[i].1=k at c0;generalize l[i].2.1=t at c1;generalize l[i].2.2=n at c2
 go_enter Tryz.func252,Tryz.ntmps252
 by_cases he:e0=0
 ·subst he
  go_wp2
  go_region
  all_goals go_wp2
  all_goals
   refine bodyPost_end (results_none rfl _ _ _) rfl ⟨rfl,⟨n,?_⟩,(Kp.setCell (p:=⟨rb,3,none⟩) (Kp.setCell (p:=⟨rb,2,none⟩) (Kp.refl _ rb w) (.inl rfl) _) (.inl rfl) _).drew⟩;have k1:=bC 2 (.int .i64 n) h.cell;have k2:=bC 3 (.int .i64 x) k1;exact ⟨k2,(h.toks.keep (aA _ _ _ h.ne)).keep (aA _ _ _ h.ne),by simpa [World.setCell] using h.lt,h.ne,h.len,h.cap⟩
 ·have he0:(e0==0)=false:=by simpa using he
  have hR:=hid h
  go_wp2
  exact bodyPost_end (results_none rfl _ _ _) rfl ⟨rfl,⟨at0,hR.out⟩,Kp.refl _ _ _⟩
set_option maxHeartbeats 1000000 in
set_option maxRecDepth 100000 in
theorem Tryz.G7 (s:Str):Calls Tryz.prog 319 #[.pointer (some ⟨rb,0,none⟩),.string ⟨s.toArray⟩] w fun e w'=>e = .returned (.tuple #[]) ∧
  (∃ a1,Tryz.Rr rb tb o cap l w' (if (decide (e0=0)&&cZ s (l.drop i))=true then i+1 else i) a1 (if (decide (e0=0)&&cZ s (l.drop i))=true then 0 else if e0=0 then 1 else e0))∧Kp w.heap.size rb w w':=by
 have cI:=Tryz.rIs h hi s;have hrl:=h.fA;have htl:=h.lt;have hl:=h.len;have he:(decide (e0=0)&&cZ s (l.drop i))=true→e0=0:=fun h=>by simp at h;exact h.1
 generalize (decide (e0=0)&&cZ s (l.drop i))=b at cI he
 replace h:=hid h
 go_enter Tryz.func319,Tryz.ntmps319
 cases b with
 | false=>
   go_wp2_with (first
    | (go_at_call 318;refine cI.mono ?_;rintro e w1 ⟨rfl,hb1⟩;have h1:=hid (h.out.keep hb1 hrl htl))
    | (go_at_call 252;refine (Tryz.G8 h1.out hi 1).mono ?_;rintro e w2 ⟨rfl,hx,hK⟩))
   all_goals exact bodyPost_ret (results_none rfl _ _ _) rfl ⟨rfl,by first | exact hx | simpa [*] using hx,(Kp.of hb1).trans (hK.mono hb1.size)⟩
 | true=>
   obtain rfl:=he rfl
   go_wp2_with (go_at_call 318;refine cI.mono ?_;rintro e w1 ⟨rfl,hb1⟩;have h1:=hid (h.out.keep hb1 hrl htl);have d1:=h1.out.cells.2.1;have f1:=h1.out.fz 1)
   exact bodyPost_end (results_none rfl _ _ _) rfl ⟨rfl,⟨at0,h1.out.step _ (i+1) (by omega)⟩,Kp.setCell (p:=⟨rb,1,none⟩) (Kp.of hb1) (.inl rfl) _⟩
set_option maxHeartbeats 1000000 in
set_option maxRecDepth 100000 in
theorem Tryz.ajT:Calls Tryz.prog 176 #[.pointer (some ⟨rb,0,none⟩)] w fun e w'=>e = .returned (.tuple #[])∧(∃ a1,Tryz.Rr rb tb o cap l w' i a1 (if e0=0 then (if l[i].1=0 then 0 else 1) else e0))∧Kp w.heap.size rb w w':=by
 obtain ⟨c0,c1,c2,_⟩:=h.toks i hi;obtain ⟨d0,d1,d2,d3⟩:=h.cells;have hl:=h.len;have hc:=h.cap;have hrl:=h.fA;have htl:=h.lt;have hR:=hid h;simp only [maxLen] at hc;obtain ⟨k,hk⟩:∃ k,l[i].1=k:=⟨_,rfl⟩
 rw [hk] at c0 ⊢
 go_enter Tryz.func176,Tryz.ntmps176
 by_cases he:e0=0
 ·subst he;by_cases hk0:k=0
  ·subst hk0
   go_wp2
   go_region
   all_goals go_wp2
   all_goals exact bodyPost_end (results_none rfl _ _ _) rfl ⟨rfl,⟨at0,hR.out.drew⟩,(Kp.refl _ _ _).drew⟩
  ·have hk1:(k:Int)≠0:=by omega
   go_wp2
   go_region
   all_goals go_wp2_with (go_at_call 252;refine (Tryz.G8 hR.out.drew hi 1).mono ?_;rintro e w2 ⟨rfl,hx,hK⟩)
   all_goals exact bodyPost_end (results_none rfl _ _ _) rfl ⟨rfl,by first | exact hx | simpa [*] using hx,(Kp.refl _ _ _).drew.trans hK⟩
 ·have he0:(e0==0)=false:=by simpa using he
  go_wp2
  try go_region
  all_goals go_wp2
  all_goals exact bodyPost_end (results_none rfl _ _ _) rfl ⟨rfl,⟨at0,hR.out.drew⟩,(Kp.refl _ _ _).drew⟩
end
def errOf (rb:Nat) (w:World):Nat:=match w.cell? ⟨rb,3,none⟩ with | some (.int _ n)=>if n=0 then 1 else 0 | _=>0
theorem Tryz.Rr.err {rb tb o cap:Nat} {l:List Tk} {w:World} {i:Nat} {at0 e0:Int} (h:Tryz.Rr rb tb o cap l w i at0 e0):errOf rb w=if e0=0 then 1 else 0:=by rw [errOf,h.cells.2.2.2]
theorem ad6 {l:List Tk} {s t:Str} (h:cZ s l=true) (hn:s≠t):cZ t l=false:=by
 cases l with
 | nil=>rfl
 | cons a r=>
   obtain ⟨k,x,n⟩:=a;simp only [cZ,Bool.and_eq_true,beq_iff_eq] at h ⊢;rw [Bool.and_eq_false_iff];refine .inr ?_;rw [beq_eq_false_iff_ne];exact fun e=>hn (h.2.symm.trans e)
def Tryz.WL (rb tb o cap:Nat) (l:List Tk) (w:World) (i:Nat) (res:Option (Tm×List Tk)) (e:Ending) (w':World):Prop:=
 ∃ val t j a1 e1,e = .returned val∧RdD (fun b=>w.heap.size≤b∧b<w'.heap.size) w' val (enT t)∧(i≤j∧j<l.length)∧Tryz.Rr rb tb o cap l w' j a1 e1∧Kp w.heap.size rb w w'∧((e1=0∧res=some (t,l.drop j)∧i<j)∨(e1≠0∧res=none))
section
variable {rb tb o cap:Nat} {l:List Tk} {w:World} {i v:Nat} {at0:Int} (hR:Tryz.Rr rb tb o cap l w i at0 0) (he:pI l) (hi:i<l.length)
include hR he hi
set_option maxHeartbeats 2000000 in
set_option maxRecDepth 100000 in
theorem Tryz.ag5 (hb:dZ (l.drop i)=true) (hv:v≤4)
  (ih:∀ j (w1:World) a,i<j→j<l.length→Tryz.Rr rb tb o cap l w1 j a 0→Calls Tryz.prog 175 #[.pointer (some ⟨rb,0,none⟩),.int .i64 (v+1)] w1 (Tryz.WL rb tb o cap l w1 j (pT l (v+1) j))) :
  Calls Tryz.prog 253 #[.pointer (some ⟨rb,0,none⟩),.int .i64 v] w (Tryz.WL rb tb o cap l w i (pT l v i)):=by
 have hr:=hR.fA;have ht:=hR.lt;have hl:=hR.len;have hcp:=hR.cap;simp only [maxLen] at hcp;have h1:=Ar he hi hb
 replace ih:=hid ih
 obtain ⟨nm,hnm⟩:∃ nm,l[i].2.1=nm:=⟨_,rfl⟩
 obtain ⟨k,hk⟩:∃ k,l[i].1=k:=⟨_,rfl⟩
 obtain ⟨W0,hW0⟩:∃ W,w.alloc (.cells #[.string ⟨#[]⟩,.slice none 0 0] 42)=W:=⟨_,rfl⟩
 have hs0:W0.heap.size=w.heap.size+1:=by rw [← hW0];simp
 have hB0:Below w.heap.size w W0:=by rw [← hW0];exact (Below.refl _ w).alloc (Nat.le_refl _) _
 have y0:W0.heap[w.heap.size]?=some (.cells #[.string ⟨#[]⟩,.slice none 0 0] 42 (0,0)):=by rw [← hW0];exact heap_alloc_new w _
 have hR0:=hR.keep hB0 hr ht;have hR1:=hR0.keep (w':=W0.alloc (.cells #[.string ⟨nm.toArray⟩,.slice none 0 0] 42)) ((Below.refl _ W0).alloc (Nat.le_refl _) _) (by omega) (by omega);obtain ⟨c0,c1,c2,hmx⟩:=hR0.toks i hi;obtain ⟨d0,d1,d2,d3⟩:=hR0.cells;rw [hk] at c0;rw [hnm] at c1;obtain ⟨c4,c5,c6,_⟩:=hR1.toks i hi;obtain ⟨d4,d5,d6,d7⟩:=hR1.cells;rw [hk] at c4;rw [hnm] at c5
 replace hR1:=hid hR1
 go_enter Tryz.func253,Tryz.ntmps253
 go_wp2
 go_region
 clear c0 c1 c2 d0 d1 d2 d3 c4 c5 c6 d4 d5 d6 d7;obtain ⟨W1,hW1⟩:∃ W,(W0.alloc (.cells #[.string ⟨nm.toArray⟩,.slice none 0 0] 42)).drew=W:=⟨_,rfl⟩
 have hs1:W1.heap.size=W0.heap.size+1:=by rw [← hW1];simp
 have hB1:Below W0.heap.size W0 W1:=by rw [← hW1];exact ((Below.refl _ W0).alloc (Nat.le_refl _) _).drew
 have y1:W1.heap[W0.heap.size]?=some (.cells #[.string ⟨nm.toArray⟩,.slice none 0 0] 42 (0,0)):=by rw [← hW1];exact heap_alloc_new W0 _
 have x1:=(hB1.block w.heap.size (by omega)).trans y0;have hR2:Tryz.Rr rb tb o cap l W1 i at0 0:=by rw [← hW1];exact hR1.out.drew
 rw [hW1];clear hW1 hR1;obtain ⟨c0,c1,c2,_⟩:=hR2.toks i hi;obtain ⟨d0,d1,d2,d3⟩:=hR2.cells;rw [hk] at c0;rw [hnm] at c1;have f1:=hR2.fz 1
 go_wp2
 go_region
 have hR3:=hid (hR2.step ((i:Int)+1) (i+1) (by omega)).drew;have hK3:Hid (Kp w.heap.size rb w (W1.setCell ⟨rb,1,none⟩ (.int .i64 ((i:Int)+1))).drew):=hid (Kp.setCell (p:=⟨rb,1,none⟩) (Kp.of (hB0.trans (hB1.mono (by omega)))) (.inl rfl) _).drew;rw [hs0] at y1;have x3:((W1.setCell ⟨rb,1,none⟩ (.int .i64 ((i:Int)+1))).drew).heap[w.heap.size]?=_:=(aA W1 ⟨rb,1,none⟩ (.int .i64 ((i:Int)+1)) (by simp;omega)).trans x1;have y3:((W1.setCell ⟨rb,1,none⟩ (.int .i64 ((i:Int)+1))).drew).heap[w.heap.size+1]?=_:=(aA W1 ⟨rb,1,none⟩ (.int .i64 ((i:Int)+1)) (by simp;omega)).trans y1;have hs3:w.heap.size+1<((W1.setCell ⟨rb,1,none⟩ (.int .i64 ((i:Int)+1))).drew).heap.size:=(Array.getElem?_eq_some_iff.1 y3).1;have n1:rb≠w.heap.size:=by omega
 have n2:rb≠w.heap.size+1:=by omega
 have n3:tb≠w.heap.size:=by omega
 have n4:tb≠w.heap.size+1:=by omega
 obtain ⟨a0,a1,a2,a3⟩:=aC y1;obtain ⟨b0,b1,b2,b3⟩:=aC x1;by_cases hleaf:k≠1
 ·have hk1:((k:Int)==1)=false:=by simp;omega
  have hres:=hid (xZ hi hb (Nat.not_lt.2 hv) (.inl (by rw [hk];exact hleaf)));have m1:w.heap.size≠rb:=by omega
  have m2:w.heap.size+1≠rb:=by omega
  go_wp2
  refine bodyPost_ret (v := .agg #[.string ⟨nm.toArray⟩,.slice none 0 0]) (by simp [results,Tryz.results253,go_sem,b0,b1,m1]) rfl ?_
  exact ⟨_,.mk nm [],i+1,at0,0,rfl,rd_mk (by rw [← hnm];exact hmx) (.mO none),⟨by omega,h1⟩,(((hR2.step ((i:Int)+1) (i+1) (by omega)).put ⟨w.heap.size,0,none⟩ (.string ⟨nm.toArray⟩) n1 n3).put ⟨w.heap.size,1,none⟩ (.slice none 0 0) n1 n3).drew,
   (((Kp.setCell (p:=⟨rb,1,none⟩) (Kp.of (hB0.trans (hB1.mono (by omega)))) (.inl rfl) _).setCell (p:=⟨w.heap.size,0,none⟩) (.inr (Nat.le_refl _)) _).setCell (p:=⟨w.heap.size,1,none⟩) (.inr (Nat.le_refl _)) _).drew,.inl ⟨rfl,by rw [hres.out,hnm],by omega⟩⟩
 ·have hk1:k=1:=by omega
  subst hk1;have m1:w.heap.size≠rb:=by omega
  have m2:w.heap.size+1≠rb:=by omega
  clear a0 a1 a2 a3 b0 b1 b2 b3;have cI:=hid (Tryz.rIs hR3.out h1 [40]);by_cases hp:cZ [40] (l.drop (i+1))=true
  ·have h2:=iV he h1 hp;have hpT:=hid (Ez hi hb (Nat.not_lt.2 hv) hk hp h2);rw [hp] at cI
   go_wp2_with (go_at_call 318;refine cI.out.mono ?_;rintro e w4 ⟨rfl,hb4⟩;have hR4:=hid (hR3.out.keep hb4 (by omega) (by omega));have d8:=hR4.out.cells.2.1;have f8:=hR4.out.fz 1;refine Hid.out ?_)
   have x4:=(hb4.block w.heap.size (by omega)).trans x3;have y4:=(hb4.block (w.heap.size+1) hs3).trans y3;have hz4:=hb4.size;have HR5:=hid (hR4.out.step ((i:Int)+1+1) (i+2) (by omega));have x5:=(aA w4 ⟨rb,1,none⟩ (.int .i64 ((i:Int)+1+1)) (by simp;omega)).trans x4;have y5:=(aA w4 ⟨rb,1,none⟩ (.int .i64 ((i:Int)+1+1)) (by simp;omega)).trans y4;have HK5:=hid (Kp.setCell (p:=⟨rb,1,none⟩) (hK3.out.trans (Kp.of (hb4.mono (by omega)))) (.inl rfl) (.int .i64 ((i:Int)+1+1)));have hRow:=hid (bV.nil (B:=w.heap.size+2) (T:=42) (sz:=2) (w:=w4.setCell ⟨rb,1,none⟩ (.int .i64 ((i:Int)+1+1))));obtain ⟨rs,hrs⟩:∃ rs,w.heap.size=rs:=⟨_,rfl⟩
   obtain ⟨ob,hob⟩:∃ ob,w.heap.size+1=ob:=⟨_,rfl⟩
   have hB2:w.heap.size+2=ob+1:=(by omega);rw [hob] at y5 ⊢;rw [hB2] at hRow;rw [hrs] at x5 ⊢
   replace hR:=hid hR
   refine hid ?_;clear hB0 hB1 hR0 hR2 hR3 hK3 x1 y1 x3 y3 x4 y4 hR4 hb4 d0 d1 d2 d3 c0 c1 c2 f1 cI y0
   go_wp2_with fail
   clear d8 f8
   go_loopw [] (fun wr=>∃ (acc:List Tm) (j:Nat) (va:Value) (a1 e1:Int),j<l.length∧i<j∧Hid ((e1=0∧pL l v [] (i+2)=pL l v acc j∧acc.length≤j)∨(e1≠0∧pT l v i=none))∧Hid (Tryz.Rr rb tb o cap l wr j a1 e1)∧Hid (Kp w.heap.size rb w wr)∧wr.heap[rs]?=some (.cells #[.string ⟨#[]⟩,.slice none 0 0] 42 (0,0))∧wr.heap[ob]?=some (.cells #[.string ⟨nm.toArray⟩,va] 42 (0,0))∧Hid (bV (ob+1) 42 2 wr va (acc.map enT))∧ob<wr.heap.size) (fun wr=>2*(l.length-posOf rb wr)+errOf rb wr)
   case atStart=>exact ⟨[],i+2,_,at0,0,h2,by omega,hid (.inl ⟨rfl,rfl,Nat.zero_le _⟩),HR5,HK5,x5,y5,hRow,(Array.getElem?_eq_some_iff.1 y5).1⟩
   case round=>
    obtain ⟨acc,j,va,a1,e1,hj,hij,hpl,HR,HK,hx,hy,HRow,hz⟩:=hrel;obtain ⟨ar,cpr,rfl⟩:=HRow.out.shape;have hpos:=hid HR.out.pos;have herr:=hid HR.out.err;rw [List.length_map] at hy HRow;have hob1:ob≠rb∧ob≠tb∧w.heap.size<ob:=(by omega);have d3:=HR.out.cells.2.2.2;clear HR5 HK5 x5 y5 hRow;by_cases he1:e1=0
    ·subst he1;have hpl0:=hid (hpl.out.resolve_right (fun h=>h.1 rfl)).2.1;have hacc:=(hpl.out.resolve_right (fun h=>h.1 rfl)).2.2;have hpT0:=hpT.out;rw [hpl0.out] at hpT0
     replace hpT0:=hid hpT0
     by_cases h44:acc.length=4∧dZ (l.drop j)=true
     ·obtain ⟨h4,hb4⟩:=h44;have hnone:=hid (hpT0.out.trans (by rw [MC h4 hb4]));obtain ⟨b0,b1,b2,b3⟩:=aC hy;rw [h4] at b1
      go_wp2_with (first
       | (go_at_call 251;refine (Tryz.Ew HR.out hj).mono ?_;rintro e w5 ⟨rfl,hb5⟩;rw [hb4];have HR5:=hid (HR.out.keep hb5 HR.out.fA HR.out.lt))
       | (go_at_call 252;refine (Tryz.G8 HR5.out hj 5).mono ?_;rintro e w6 ⟨rfl,⟨a6,hR6⟩,hK6⟩;refine Hid.out ?_))
      replace h4:=hid h4
      have HRz:Hid (Tryz.Rr rb tb o cap l w6 j a6 5):=hid hR6;have hz5:=hb5.size;have HKz:=hid (HK.out.trans ((Kp.of (hb5.mono HK.out.size)).trans (hK6.mono (Nat.le_trans HK.out.size hz5))));have hjz:=hj;have xz:=(hK6.block rs (by omega) (by omega)).trans ((hb5.block rs (by omega)).trans hx);have yz:=(hK6.block ob (by omega) (by omega)).trans ((hb5.block ob hz).trans hy);have hzz:=(Array.getElem?_eq_some_iff.1 yz).1;have Rowz:=hid ((HRow.out.keep hz5 (fun b _ hb=>hb5.block b hb)).keep hK6.size (fun b _ hb=>hK6.block b hb (by omega)));clear b0 b1 b2 b3 hx hy HR HK HRow HR5 hR6 hK6 d3;refine hid ?_;have cS:=hid (Tryz.G7 HRz.out hjz [41])
      go_wp2_with (first | (go_at_call 319;refine cS.out.mono ?_;rintro e w10 ⟨rfl,⟨a10,hR10⟩,hK10⟩;replace hR10:=hid hR10;replace hK10:=hid hK10;have x10:=(hK10.out.block rs (by omega) (by omega)).trans xz;have y10:=(hK10.out.block ob hzz (by omega)).trans yz;obtain ⟨a0,a1,a2,a3⟩:=aC x10;obtain ⟨b0,b1,b2,b3⟩:=aC y10))
      have HR10:=Rowz.out.keep hK10.out.size (fun b hb hb2=>hK10.out.block b hb2 (by omega));have hd:=hid (HR10.rd (by decide));have HK:=hid (HKz.out.trans (hK10.out.mono HKz.out.size));refine bodyPost_ret (v := .agg #[.string ⟨nm.toArray⟩,.slice ar acc.length cpr]) (by simp [results,Tryz.results253,go_sem,a0,a1]) rfl ?_;refine ⟨_,.mk nm (acc),_,a10,_,rfl,rd_mk (by rw [← hnm];exact hmx) (hd.out.mono (fun b hb=>(aA _ _ _ (by simp;omega)).trans (aA _ _ _ (by simp;omega))) (fun b hb=>⟨by omega,by simpa [World.setCell] using hb.2⟩)),?_,(hR10.out.put ⟨rs,0,none⟩ _ (by simp;omega) (by simp;omega)).put ⟨rs,1,none⟩ _ (by simp;omega) (by simp;omega),(HK.out.setCell (p:=⟨rs,0,none⟩) (.inr (by simp;omega)) _).setCell (p:=⟨rs,1,none⟩) (.inr (by simp;omega)) _,?_⟩
      ·exact ⟨by simp;omega,by simpa using hj⟩
      ·exact .inr ⟨by simp,hnone.out⟩
     ·by_cases h4:acc.length=4
      case' pos=>
       have hb4:dZ (l.drop j)=false:=by
        cases hb:dZ (l.drop j)
        ·rfl
        ·exact absurd ⟨h4,hb⟩ h44
       obtain ⟨b0,b1,b2,b3⟩:=aC hy;rw [h4] at b1
       go_wp2_with (go_at_call 251;refine (Tryz.Ew HR.out hj).mono ?_;rintro e w5 ⟨rfl,hb5⟩;rw [hb4])
      case' neg=>
       obtain ⟨b0,b1,b2,b3⟩:=aC hy;have h40:((acc.length:Int)==4)=false:=by simp;omega
       go_wp2_with fail
       obtain ⟨w5,hw5⟩:∃ w5,wr=w5:=⟨_,rfl⟩
       have hb5:Below wr.heap.size wr w5:=hw5 ▸ Below.refl _ _;rw [hw5];clear hw5
      all_goals
       replace h4:=hid h4
       have HR5:=hid (HR.out.keep hb5 HR.out.fA HR.out.lt);have HK5:=hid (HK.out.trans (Kp.of (hb5.mono HK.out.size)));have hx5:=(hb5.block rs (by omega)).trans hx;have hy5:=(hb5.block ob hz).trans hy;have hz5:=hb5.size;have HRow5:=hid (HRow.out.keep hb5.size (fun b _ hb=>hb5.block b hb));clear b0 b1 b2 b3;obtain ⟨b0,b1,b2,b3⟩:=aC hy5;clear hx hy HR HK HRow d3;have hwr:IntKind.i64.wrap ((v:Int)+1)=(v:Int)+1:=by rw [IntKind.wrap_i64];omega
       have cT:Hid (Calls Tryz.prog 175 #[.pointer (some ⟨rb,0,none⟩),.int .i64 (v+1)] w5.drew fun e w6=>
         ∃ (n0:Str) (l0:List Tm) (a6:Option Addr) (c6 j6:Nat) (a7 e7:Int),e = .returned (.agg #[.string ⟨n0.toArray⟩,.slice a6 l0.length c6])∧Hid (j≤j6∧j6<l.length∧((e7=0∧pT l (v+1) j=some (.mk n0 l0,l.drop j6)∧j<j6)∨(e7≠0∧pT l (v+1) j=none)))∧Hid (Tryz.Rr rb tb o cap l w6 j6 a7 e7)∧Hid (Kp w.heap.size rb w w6)∧Hid (w6.heap[rs]?=w5.heap[rs]?)∧w6.cell? ⟨ob,1,none⟩=some (.slice ar acc.length cpr)∧Hid (w6.heap[ob]?=some (.cells #[.string ⟨nm.toArray⟩,.slice ar acc.length cpr] 42 (0,0)))∧ob<w6.heap.size ∧
           Hid (bV (ob+1) 42 2 (w6.alloc (.cells #[.string ⟨n0.toArray⟩,.slice a6 l0.length c6] 42)) (.slice ar acc.length cpr) (acc.map enT)) ∧
           (∀ (q:Nat) u,[Value.string ⟨n0.toArray⟩,.slice a6 l0.length c6][q]?=some u→(w6.alloc (.cells #[.string ⟨n0.toArray⟩,.slice a6 l0.length c6] 42)).cell? ((⟨w6.heap.size,0,none⟩:Addr).add q)=some u) ∧
           Hid (∀ (q:Nat) u k,[Value.string ⟨n0.toArray⟩,.slice a6 l0.length c6][q]?=some u→(D.cells (enT (.mk n0 l0)))[q]?=some k→RdD (fun b=>ob+1≤b∧b<(w6.alloc (.cells #[.string ⟨n0.toArray⟩,.slice a6 l0.length c6] 42)).heap.size∧Value.ownBlock (.slice ar acc.length cpr)≠some b) (w6.alloc (.cells #[.string ⟨n0.toArray⟩,.slice a6 l0.length c6] 42)) u k∧u.oneCell'=true∧D.one k=true)):=hid (by
        refine (ih.out j w5.drew a1 hij hj HR5.out.drew).mono ?_;rintro e w6 ⟨val,⟨n0,l0⟩,j6,a7,e7,rfl,hd6,⟨hij6,hj6⟩,hR6,hK6,hdis⟩;obtain ⟨u6,rfl,hu6⟩:=rdt hd6;obtain ⟨a6,c6,rfl,_⟩:=rdl hu6;have hobs:ob<w5.drew.heap.size:=Nat.lt_of_lt_of_le hz hz5;obtain ⟨r1,r2,r3⟩:=bV.ready (w:=w5.drew) (HRow5.out.keep (w':=w5.drew) (Nat.le_refl _) (fun _ _ _=>rfl)) hobs hK6.size (fun b h1 h2=>hK6.block b h2 (by omega)) _ _ (yt hd6);have y6:=(hK6.block ob hobs hob1.1).trans hy5
        exact ⟨n0,l0,a6,c6,j6,a7,e7,rfl,⟨hij6,hj6,hdis⟩,hR6,HK5.out.drew.trans (hK6.mono HK5.out.size),hK6.block rs (by have:w5.drew.heap.size=w5.heap.size:=rfl;omega) (by omega),(aC y6).2.1,y6,Nat.lt_of_lt_of_le hobs hK6.size,r1,r2,r3⟩)
       clear HR5 HK5 HRow5
       go_region_law (first
         | (go_simp;go_at_call 175;refine cT.out.mono ?_;rintro e w6 ⟨n0,l0,a6,c6,j6,a7,e7,rfl,hp6,HR6,HK6,hx6,b6,hy6,hz6,r1,r2,r3⟩)
         | (refine uX rfl _ _ _ rfl Tryz.termInfo rfl r1.out _ _ rfl (enT (.mk n0 l0)) _ rfl r2 (jR _) r3.out ?_ ?_ ?_;rotate_left 2;intro g7 c7 w7 hr7 hg7;have y7:=(r1.out.far hg7 (Nat.lt_succ_self ob) (by simp;omega)).trans ((heap_alloc_old w6 _ hz6).trans hy6.out);have b7:=(aC y7).2.1;have f7:=(aC y7).2.2.2;replace y7:=hid y7;replace hr7:=hid hr7;rotate_left;rw [List.length_map];omega;simp;omega))
       all_goals
        have hB7:Below (ob+1) w6 w7:=r1.out.below hg7 (by omega)
        replace hr7:=hr7.out
        rw [List.length_map] at hr7;obtain ⟨vg,hvg⟩:∃ vg,Value.slice (some ⟨g7,0,none⟩) (acc.length+1) c7=vg:=⟨_,rfl⟩
        rw [hvg] at hr7 ⊢;obtain ⟨W8,hW8⟩:∃ W,w7.setCell ⟨ob,1,none⟩ vg=W:=⟨_,rfl⟩
        have HR8:=hid ((HR6.out.keep hB7 (by omega) (by omega)).put ⟨ob,1,none⟩ vg (by simp;omega) (by simp;omega));have HK8:=hid ((HK6.out.trans (Kp.of (hB7.mono (by omega)))).setCell (p:=⟨ob,1,none⟩) (.inr (by simp;omega)) vg);have y8:=bC 1 vg y7.out;have x8:=((aA w7 ⟨ob,1,none⟩ vg (by simp;omega:rs≠_)).trans (hB7.block rs (by omega))).trans (hx6.out.trans hx5);have HRow8:=hid (hr7.keep (w':=w7.setCell ⟨ob,1,none⟩ vg) (by simp [World.setCell]) (fun b hb _=>aA w7 _ _ (by simp;omega)));simp only [List.setIfInBounds_toArray,List.set_cons_succ,List.set_cons_zero] at y8;rw [hW8] at HR8 HK8 y8 x8 HRow8 ⊢;have hz8:=(Array.getElem?_eq_some_iff.1 y8).1;have hn4:¬ (acc.length=4∧dZ (l.drop j)=true):=h44;have HRow9:Hid (bV (ob+1) 42 2 W8 vg ((acc++[Tm.mk n0 l0]).map enT)):=hid (by rw [List.map_append];exact HRow8.out);obtain ⟨av,cv,hvs⟩:=HRow8.out.shape;have hvs:vg = .slice av (acc++[Tm.mk n0 l0]).length cv:=(by rw [hvs];simp);obtain ⟨hjj,hj6,hdis⟩:=hp6.out;clear hW8 hr7 y7 b7 f7 hg7 r1 r2 r3 b6 hy6 HR6 HK6 hx6 hB7 cT b0 b1 b2 b3 HRow8 hp6 hvg;have cI:=hid (Tryz.rIs HR8.out hj6 [41]);by_cases he7:e7=0
        ·subst he7;obtain ⟨_,hpt,hj67⟩:=hdis.resolve_right (fun h=>h.1 rfl);have hpos7:=hid hj67;have cI2:=cI;rw [decide_eq_true rfl,Bool.true_and] at cI;by_cases hc:cZ [41] (l.drop j6)=true
         ·have h7:=iV he hj6 hc;have hlast:=hid (hpT0.out.trans (by rw [EC hn4 hpt (ad6 hc (by decide))]));rw [hc] at cI
          go_wp2_with (go_at_call 318;refine cI.out.mono ?_;rintro e w9 ⟨rfl,hb9⟩;refine Hid.out ?_)
          have hz9:=hb9.size;have HRz:=hid (HR8.out.keep hb9 HR8.out.fA HR8.out.lt);have HKz:=hid (HK8.out.trans (Kp.of (hb9.mono HK8.out.size)));have hjz:=hj6;have xz:=(hb9.block rs (by omega)).trans x8;have yz:=(hb9.block ob hz8).trans y8;have hzz:=(Array.getElem?_eq_some_iff.1 yz).1;have Rowz:=hid (HRow9.out.keep hz9 (fun b _ hb=>hb9.block b hb));rw [hvs] at yz Rowz;have hE:(decide ((0:Int)=0)&&cZ [41] (l.drop j6))=true:=by rw [decide_eq_true rfl,Bool.true_and];exact hc
          replace hvs:=hid hvs
          replace hc:=hid hc
          clear hb9 x8 y8 HR8 HK8 HRow9 cI cI2 hz8;refine hid ?_;have cS:=hid (Tryz.G7 HRz.out hjz [41])
          go_wp2_with (first | (go_at_call 319;refine cS.out.mono ?_;rintro e w10 ⟨rfl,⟨a10,hR10⟩,hK10⟩;replace hR10:=hid hR10;replace hK10:=hid hK10;have x10:=(hK10.out.block rs (by omega) (by omega)).trans xz;have y10:=(hK10.out.block ob hzz (by omega)).trans yz;obtain ⟨a0,a1,a2,a3⟩:=aC x10;obtain ⟨b0,b1,b2,b3⟩:=aC y10))
          have HR10:=Rowz.out.keep hK10.out.size (fun b hb hb2=>hK10.out.block b hb2 (by omega));have hd:=hid (HR10.rd (by decide));have HK:=hid (HKz.out.trans (hK10.out.mono HKz.out.size));refine bodyPost_ret (v := .agg #[.string ⟨nm.toArray⟩,.slice av (acc++[Tm.mk n0 l0]).length cv]) (by simp [results,Tryz.results253,go_sem,a0,a1]) rfl ?_;refine ⟨_,.mk nm (acc++[.mk n0 l0]),_,a10,_,rfl,rd_mk (by rw [← hnm];exact hmx) (hd.out.mono (fun b hb=>(aA _ _ _ (by simp;omega)).trans (aA _ _ _ (by simp;omega))) (fun b hb=>⟨by omega,by simpa [World.setCell] using hb.2⟩)),?_,(hR10.out.put ⟨rs,0,none⟩ _ (by simp;omega) (by simp;omega)).put ⟨rs,1,none⟩ _ (by simp;omega) (by simp;omega),(HK.out.setCell (p:=⟨rs,0,none⟩) (.inr (by simp;omega)) _).setCell (p:=⟨rs,1,none⟩) (.inr (by simp;omega)) _,?_⟩
          ·rw [hE];exact ⟨by simp;omega,by simpa using h7⟩
          ·rw [hE];exact .inl ⟨by simp,hlast.out.trans (by show (if cZ [41] (l.drop j6)=true then some (Tm.mk l[i].2.1 (acc++[Tm.mk n0 l0]),(l.drop j6).tail) else none)=_;rw [if_pos hc.out,hnm,tail_drop];rfl),by simp;omega⟩
         ·have hc:cZ [41] (l.drop j6)=false:=(by simpa using hc);rw [hc] at cI;have hS:=hid (fun (w9:World) (h:Tryz.Rr rb tb o cap l w9 j6 a7 0)=>Tryz.G7 h hj6 [44]);rw [decide_eq_true rfl,Bool.true_and] at hS;by_cases hcm:cZ [44] (l.drop j6)=true
          ·have h7:=iV he hj6 hcm;have hpl8:=hid (hpl0.out.trans (MB hj6 hj67 hn4 hpt hcm));rw [hcm] at hS
           go_wp2_with (first
            | (go_at_call 318;refine cI.out.mono ?_;rintro e w9 ⟨rfl,hb9⟩;have HR9:=hid (HR8.out.keep hb9 HR8.out.fA HR8.out.lt);have HK9:=hid (HK8.out.trans (Kp.of (hb9.mono HK8.out.size))))
            | (go_at_call 319;refine (hS.out w9 HR9.out).mono ?_;rintro e w10 ⟨rfl,⟨a10,hR10⟩,hK10⟩;replace hR10:Hid (Tryz.Rr rb tb o cap l w10 (j6+1) a10 0):=hid hR10;replace hK10:=hid hK10))
           go_roundw
           case rel=>
            have hz9:=hb9.size;refine ⟨acc++[.mk n0 l0],j6+1,vg,a10,0,h7,by omega,hid (.inl ⟨rfl,hpl8.out,by simp;omega⟩),hR10,hid (HK9.out.trans (hK10.out.mono HK9.out.size)),(hK10.out.block rs (by omega) (by omega)).trans ((hb9.block rs (by omega)).trans x8),(hK10.out.block ob (by omega) (by omega)).trans ((hb9.block ob hz8).trans y8),?_,by have:=hK10.out.size;omega⟩;exact hid ((HRow9.out.keep hz9 (fun b _ hb=>hb9.block b hb)).keep hK10.out.size (fun b hb hb2=>hK10.out.block b hb2 (by omega)))
           case measure=>
            rw [hR10.out.pos,hpos.out,hR10.out.err,herr.out];simp only [if_true];omega
          ·have hcm:cZ [44] (l.drop j6)=false:=(by simpa using hcm);have hnone:Hid (pT l v i=none):=hid (by rw [hpT0.out,EC hn4 hpt hcm];show (if cZ [41] (l.drop j6)=true then _ else none)=none;rw [hc];rfl);rw [hcm] at hS
           go_wp2_with (first
            | (go_at_call 318;refine cI.out.mono ?_;rintro e w9 ⟨rfl,hb9⟩;have HR9:=hid (HR8.out.keep hb9 HR8.out.fA HR8.out.lt);have HK9:=hid (HK8.out.trans (Kp.of (hb9.mono HK8.out.size))))
            | (go_at_call 319;refine (hS.out w9 HR9.out).mono ?_;rintro e w10 ⟨rfl,⟨a10,hR10⟩,hK10⟩;replace hR10:Hid (Tryz.Rr rb tb o cap l w10 j6 a10 1):=hid hR10;replace hK10:=hid hK10))
           go_roundw
           case rel=>
            have hz9:=hb9.size;refine ⟨acc++[.mk n0 l0],j6,vg,a10,1,hj6,by omega,hid (.inr ⟨by decide,hnone.out⟩),hR10,hid (HK9.out.trans (hK10.out.mono HK9.out.size)),(hK10.out.block rs (by omega) (by omega)).trans ((hb9.block rs (by omega)).trans x8),(hK10.out.block ob (by omega) (by omega)).trans ((hb9.block ob hz8).trans y8),?_,by have:=hK10.out.size;omega⟩;exact hid ((HRow9.out.keep hz9 (fun b _ hb=>hb9.block b hb)).keep hK10.out.size (fun b hb hb2=>hK10.out.block b hb2 (by omega)))
           case measure=>
            rw [hR10.out.pos,hpos.out,hR10.out.err,herr.out,if_neg (show ¬ (1:Int)=0 by decide)];simp only [if_true];omega
        ·have hpt:=(hdis.resolve_left (fun h=>he7 h.1)).2;have hnone:=hid (hpT0.out.trans (by rw [Me hpt]));rw [decide_eq_false he7,Bool.false_and] at cI;have he70:=hid he7
         go_wp2_with (first
          | (go_at_call 318;refine cI.out.mono ?_;rintro e w9 ⟨rfl,hb9⟩;have HR9:=hid (HR8.out.keep hb9 HR8.out.fA HR8.out.lt);have HK9:=hid (HK8.out.trans (Kp.of (hb9.mono HK8.out.size))))
          | (go_at_call 319;refine (Tryz.G7 HR9.out hj6 [44]).mono ?_;rintro e w10 ⟨rfl,⟨a10,hR10⟩,hK10⟩;rw [decide_eq_false he70.out,Bool.false_and,if_neg (by simp),if_neg (by simp),if_neg he70.out] at hR10;replace hR10:=hid hR10;replace hK10:=hid hK10))
         go_roundw
         case rel=>
          have hz9:=hb9.size;refine ⟨acc++[.mk n0 l0],j6,vg,a10,e7,hj6,by omega,hid (.inr ⟨he7,hnone.out⟩),hR10,hid (HK9.out.trans (hK10.out.mono HK9.out.size)),(hK10.out.block rs (by omega) (by omega)).trans ((hb9.block rs (by omega)).trans x8),(hK10.out.block ob (by omega) (by omega)).trans ((hb9.block ob hz8).trans y8),?_,by have:=hK10.out.size;omega⟩;exact hid ((HRow9.out.keep hz9 (fun b _ hb=>hb9.block b hb)).keep hK10.out.size (fun b hb hb2=>hK10.out.block b hb2 (by omega)))
         case measure=>
          rw [hR10.out.pos,hpos.out,hR10.out.err,herr.out,if_neg he7];simp only [if_true];omega
    ·have he0:(e1==0)=false:=(by simpa using he1);have hnone:=hid (hpl.out.resolve_left (fun h=>he1 h.1)).2;have HRz:=HR;have HKz:=HK;have hjz:=hj;have xz:=hx;have yz:=hy;have hzz:=hz;have Rowz:=HRow;have hE:(decide (e1=0)&&cZ [41] (l.drop j))=false:=(by rw [decide_eq_false he1];rfl);have hE2:=he1
     replace he1:=hid he1
     have cS:=hid (Tryz.G7 HRz.out hjz [41])
     go_wp2_with (first | (go_at_call 319;refine cS.out.mono ?_;rintro e w10 ⟨rfl,⟨a10,hR10⟩,hK10⟩;replace hR10:=hid hR10;replace hK10:=hid hK10;have x10:=(hK10.out.block rs (by omega) (by omega)).trans xz;have y10:=(hK10.out.block ob hzz (by omega)).trans yz;obtain ⟨a0,a1,a2,a3⟩:=aC x10;obtain ⟨b0,b1,b2,b3⟩:=aC y10))
     have HR10:=Rowz.out.keep hK10.out.size (fun b hb hb2=>hK10.out.block b hb2 (by omega));have hd:=hid (HR10.rd (by decide));have HK:=hid (HKz.out.trans (hK10.out.mono HKz.out.size));refine bodyPost_ret (v := .agg #[.string ⟨nm.toArray⟩,(.slice ar acc.length cpr)]) (by simp [results,Tryz.results253,go_sem,a0,a1]) rfl ?_;refine ⟨_,.mk nm (acc),_,a10,_,rfl,rd_mk (by rw [← hnm];exact hmx) (hd.out.mono (fun b hb=>(aA _ _ _ (by simp;omega)).trans (aA _ _ _ (by simp;omega))) (fun b hb=>⟨by omega,by simpa [World.setCell] using hb.2⟩)),?_,(hR10.out.put ⟨rs,0,none⟩ _ (by simp;omega) (by simp;omega)).put ⟨rs,1,none⟩ _ (by simp;omega) (by simp;omega),(HK.out.setCell (p:=⟨rs,0,none⟩) (.inr (by simp;omega)) _).setCell (p:=⟨rs,1,none⟩) (.inr (by simp;omega)) _,?_⟩
     ·rw [hE];exact ⟨by simp;omega,by simpa using hj⟩
     ·rw [hE];exact .inr ⟨by simp [hE2],hnone.out⟩
  ·have hp:cZ [40] (l.drop (i+1))=false:=(by simpa using hp);have hres:=hid (xZ hi hb (Nat.not_lt.2 hv) (.inr hp));rw [hp] at cI
   go_wp2_with (go_at_call 318;refine cI.out.mono ?_;rintro e w4 ⟨rfl,hb4⟩;have hR4:=hid (hR3.out.keep hb4 (by omega) (by omega));have x4:=(hb4.block w.heap.size (by omega)).trans x3;have y4:=(hb4.block (w.heap.size+1) hs3).trans y3;obtain ⟨a0,a1,a2,a3⟩:=aC y4;obtain ⟨b0,b1,b2,b3⟩:=aC x4)
   refine bodyPost_ret (v := .agg #[.string ⟨nm.toArray⟩,.slice none 0 0]) (by simp [results,Tryz.results253,go_sem,b0,b1]) rfl ?_
   exact ⟨_,.mk nm [],i+1,at0,0,rfl,rd_mk (by rw [← hnm];exact hmx) (.mO none),⟨by omega,h1⟩,(hR4.out.put ⟨w.heap.size,0,none⟩ (.string ⟨nm.toArray⟩) n1 n3).put ⟨w.heap.size,1,none⟩ (.slice none 0 0) n1 n3,
    ((hK3.out.trans (Kp.of (hb4.mono (by omega)))).setCell (p:=⟨w.heap.size,0,none⟩) (.inr (Nat.le_refl _)) _).setCell (p:=⟨w.heap.size,1,none⟩) (.inr (Nat.le_refl _)) _,.inl ⟨rfl,by rw [hres.out,hnm],by omega⟩⟩
end
set_option maxHeartbeats 1000000 in
set_option maxRecDepth 100000 in
theorem Tryz.ZY {rb tb o cap:Nat} {l:List Tk} (he:pI l):∀ (n v i:Nat) (w:World) (at0:Int),l.length-i≤n→v≤5→i<l.length→Tryz.Rr rb tb o cap l w i at0 0 →
  Calls Tryz.prog 175 #[.pointer (some ⟨rb,0,none⟩),.int .i64 v] w (Tryz.WL rb tb o cap l w i (pT l v i))
 | 0,v,i,w,at0,hn,hv,hi,hR=>by omega
 | n+1,v,i,w,at0,hn,hv,hi,hR=>by
   obtain ⟨W0,hW0⟩:∃ W,w.alloc (.cells #[.string ⟨#[]⟩,.slice none 0 0] 42)=W:=⟨_,rfl⟩
   have hs0:W0.heap.size=w.heap.size+1:=(by rw [← hW0];simp);have hB0:Below w.heap.size w W0:=(by rw [← hW0];exact (Below.refl _ w).alloc (Nat.le_refl _) _);have y0:W0.heap[w.heap.size]?=some (.cells #[.string ⟨#[]⟩,.slice none 0 0] 42 (0,0)):=(by rw [← hW0];exact heap_alloc_new w _);have hr:=hR.fA;have ht:=hR.lt;have hR0:=hR.keep hB0 hr ht;have cB:=Tryz.Ew hR0 hi;have m1:w.heap.size≠rb:=(by omega);have n1:rb≠w.heap.size:=(by omega);have n3:tb≠w.heap.size:=(by omega);have bad:∀ (a:Int) (w2:World) (x y:Value),x = .string ⟨#[]⟩→y = .slice none 0 0→pT l v i=none→(∃ e1,e1≠0∧Tryz.Rr rb tb o cap l w2 i a e1)→Kp w.heap.size rb w w2→Tryz.WL rb tb o cap l w i (pT l v i) (.returned (.agg #[x,y])) ((w2.setCell ⟨w.heap.size,0,none⟩ (.string ⟨#[]⟩)).setCell ⟨w.heap.size,1,none⟩ (.slice none 0 0)):=by
    rintro a w2 x y rfl rfl hn ⟨e1,he1,h2⟩ hk;exact ⟨_,.mk [] [],i,a,e1,rfl,rd_mk (Nat.zero_le _) (.mO none),⟨Nat.le_refl _,hi⟩,(h2.put _ _ n1 n3).put _ _ n1 n3,(hk.setCell (p:=⟨w.heap.size,0,none⟩) (.inr (Nat.le_refl _)) _).setCell (p:=⟨w.heap.size,1,none⟩) (.inr (Nat.le_refl _)) _,.inr ⟨he1,hn⟩⟩
   replace bad:=hid bad
   cases hb:dZ (l.drop i) with
   | false=>
     rw [hb] at cB;have hres:=hid (aac (v:=v) hi hb)
     go_enter Tryz.func175,Tryz.ntmps175
     go_wp2_with (first
      | (go_at_call 251;refine cB.mono ?_;rintro e w1 ⟨rfl,hb1⟩;have hR1:=hid (hR0.keep hb1 (by omega) (by omega));have hz1:=hb1.size;have y1:=(hb1.block w.heap.size (by omega)).trans y0)
      | (go_at_call 252;refine (Tryz.G8 hR1.out hi 1).mono ?_;rintro e w2 ⟨rfl,⟨a1,hR2⟩,hK2⟩;obtain ⟨a0,b1,a2,a3⟩:=aC ((hK2.block w.heap.size (by omega) m1).trans y1);replace hR2:=hid hR2;replace hK2:=hid ((Kp.of (hB0.trans (hb1.mono (by omega)))).trans (hK2.mono (by omega)))))
     refine bodyPost_ret (v := .agg #[.string ⟨#[]⟩,.slice none 0 0]) (by simp [results,Tryz.results175,go_sem,a0,b1]) rfl ?_;exact bad.out _ _ _ _ rfl rfl hres.out ⟨1,by decide,hR2.out⟩ hK2.out
   | true=>
     rw [hb] at cB;by_cases hv4:4<v
     ·have hres:=hid (L6 (v:=v) hi hv4);have hv4':(4:Int)<(v:Int):=by omega
      go_enter Tryz.func175,Tryz.ntmps175
      go_wp2_with (first
       | (go_at_call 251;refine cB.mono ?_;rintro e w1 ⟨rfl,hb1⟩;have hR1:=hid (hR0.keep hb1 (by omega) (by omega));have hz1:=hb1.size;have y1:=(hb1.block w.heap.size (by omega)).trans y0)
       | (go_at_call 252;refine (Tryz.G8 hR1.out hi 3).mono ?_;rintro e w2 ⟨rfl,⟨a1,hR2⟩,hK2⟩;obtain ⟨a0,b1,a2,a3⟩:=aC ((hK2.block w.heap.size (by omega) m1).trans y1);replace hR2:=hid hR2;replace hK2:=hid ((Kp.of (hB0.trans (hb1.mono (by omega)))).trans (hK2.mono (by omega)))))
      refine bodyPost_ret (v := .agg #[.string ⟨#[]⟩,.slice none 0 0]) (by simp [results,Tryz.results175,go_sem,a0,b1]) rfl ?_;exact bad.out _ _ _ _ rfl rfl hres.out ⟨3,by decide,hR2.out⟩ hK2.out
     ·have hv4':¬ (4:Int)<(v:Int):=(by omega);have cC:∀ w2,Tryz.Rr rb tb o cap l w2 i at0 0→Calls Tryz.prog 253 #[.pointer (some ⟨rb,0,none⟩),.int .i64 v] w2 (Tryz.WL rb tb o cap l w2 i (pT l v i)):=fun w2 h2=>
       Tryz.ag5 h2 he hi hb (by omega) (fun j w1 a hij hj h1=>by
        have:=Tryz.ZY he n (v+1) j w1 a (by omega) (by omega) hj h1
        simpa using this)
      replace cC:=hid cC
      replace bad:=hid True.intro
      generalize pT l v i=res at *
      go_enter Tryz.func175,Tryz.ntmps175
      go_wp2_with (first
       | (go_at_call 251;refine cB.mono ?_;rintro e w1 ⟨rfl,hb1⟩;have hR1:=hid (hR0.keep hb1 (by omega) (by omega));have hz1:=hb1.size;have y1:=(hb1.block w.heap.size (by omega)).trans y0)
       | (go_at_call 253;refine (cC.out _ hR1.out).mono ?_;rintro e w2 ⟨val,t,j,a1,e1,rfl,hd,hij,hR2,hK2,hdis⟩;refine Hid.out ?_))
      obtain ⟨n0,l0⟩:=t;obtain ⟨u,rfl,hu⟩:=rdt hd;obtain ⟨a3,c3,rfl,_⟩:=rdl hu;obtain ⟨a0,b1,a2,a3'⟩:=aC ((hK2.block w.heap.size (by omega) m1).trans y1)
      replace hR2:=hid hR2
      have hK:=hid ((Kp.of (hB0.trans (hb1.mono (by omega)))).trans (hK2.mono (by omega)))
      replace hdis:=hid hdis
      replace hd:=hid hd
      refine hid ?_
      go_wp2_with fail
      refine bodyPost_ret (v := .agg #[.string ⟨n0.toArray⟩,.slice a3 l0.length c3]) (by simp [results,Tryz.results175,go_sem,a0,b1]) rfl ?_;refine ⟨_,.mk n0 l0,j,a1,e1,rfl,hd.out.mono (fun b hb=>?_) (fun b hb=>⟨by omega,by simpa [World.setCell] using hb.2⟩),hij,(hR2.out.put _ _ n1 n3).put _ _ n1 n3,(hK.out.setCell (p:=⟨w.heap.size,0,none⟩) (.inr (Nat.le_refl _)) _).setCell (p:=⟨w.heap.size,1,none⟩) (.inr (Nat.le_refl _)) _,hdis.out⟩;exact (aA _ _ _ (by simp;omega)).trans (aA _ _ _ (by simp;omega))
def Tryz.ZQ (s:Str) (w:World) (e:Ending) (w':World):Prop:=
 ∃ rb,e = .returned (.pointer (some ⟨rb,0,none⟩))∧w.heap.size≤rb∧Below w.heap.size w w' ∧
   ((∃ l tb o cap,jB s=some l∧pI l∧0<l.length∧w.heap.size≤tb∧Tryz.Rr rb tb o cap l w' 0 0 0) ∨
    (jB s=none∧∃ a e1:Int,e1≠0∧w'.heap[rb]?=some (.cells #[.slice none 0 0,.int .i64 0,.int .i64 a,.int .i64 e1] 237 (0,0))))
set_option maxHeartbeats 1000000 in
set_option maxRecDepth 100000 in
theorem Tryz.aeg (s:Str) (hs:s.length≤16384) (w:World) :
  Calls Tryz.prog 174 #[.string ⟨s.toArray⟩] w (Tryz.ZQ s w):=by
 have cL:=Tryz.aec s hs w
 go_enter Tryz.func174,Tryz.ntmps174
 go_wp2_with (go_at_call 250;refine cL.mono ?_;rintro e w1 (⟨l,val,hl,rfl,hd,hb⟩ | ⟨hl,a,e1,he1,rfl,hb⟩)<;>refine Hid.out ?_)
 ·have he:=zH hl (by omega);obtain ⟨tb,o,cap,rfl,hok,hc1,hc2,htk⟩:=rdk hd he.1;have hN:=heap_alloc_new w1 (.cells #[.slice (some ⟨tb,o,none⟩) l.length cap,.int .i64 0,.int .i64 0,.int .i64 0] 237);have hT:=htk.keep (heap_alloc_old w1 (.cells #[.slice (some ⟨tb,o,none⟩) l.length cap,.int .i64 0,.int .i64 0,.int .i64 0] 237) hok.2);refine hid ?_
  go_wp2_with fail
  go_ret
  exact ⟨_,rfl,hb.size,hb.alloc hb.size _,.inl ⟨l,tb,o,cap,hl,he,he.1,hok.1,hN,hT,by simp;omega,by omega,he.2.1,hc1,hc2⟩⟩
 ·refine hid ?_
  go_wp2_with fail
  go_ret
  exact ⟨_,rfl,hb.size,hb.alloc hb.size _,.inr ⟨hl,a,e1,he1,heap_alloc_new w1 _⟩⟩
set_option maxHeartbeats 1000000 in
set_option maxRecDepth 100000 in
theorem Tryz.aef (s:Str) (hs:s.length≤16384) (w:World) :
  Calls Tryz.prog 107 #[.string ⟨s.toArray⟩] w (nC enT (.agg #[.string ⟨#[]⟩,.slice none 0 0]) (gQ s) w):=by
 obtain ⟨W0,hW0⟩:∃ W,w.alloc (.cells #[.string ⟨#[]⟩,.slice none 0 0] 42)=W:=⟨_,rfl⟩
 have hs0:W0.heap.size=w.heap.size+1:=by rw [← hW0];simp
 have hB0:Below w.heap.size w W0:=by rw [← hW0];exact (Below.refl _ w).alloc (Nat.le_refl _) _
 have y0:W0.heap[w.heap.size]?=some (.cells #[.string ⟨#[]⟩,.slice none 0 0] 42 (0,0)):=by rw [← hW0];exact heap_alloc_new w _
 have cB:=Tryz.aeg s hs W0;have bad:∀ (a e1:Int) (w2:World),gQ s=none→e1≠0→Below w.heap.size w w2→nC enT (.agg #[.string ⟨#[]⟩,.slice none 0 0]) (gQ s) w (.returned (.tuple #[.agg #[.string ⟨#[]⟩,.slice none 0 0],.int .i64 a,.int .i64 e1])) ((w2.setCell ⟨w.heap.size,0,none⟩ (.string ⟨#[]⟩)).setCell ⟨w.heap.size,1,none⟩ (.slice none 0 0)).drew:=fun a e1 w2 h0 h1 h2=>
  .inr ⟨h0,a,e1,h1,rfl,((h2.setCell (p:=⟨w.heap.size,0,none⟩) (Nat.le_refl _) _).setCell (p:=⟨w.heap.size,1,none⟩) (Nat.le_refl _) _).drew⟩
 replace bad:=hid bad
 go_enter Tryz.func107,Tryz.ntmps107
 go_wp2_with (go_at_call 174;refine cB.mono ?_;rintro e w1 ⟨rb,rfl,hrb,hb1,(⟨l,tb,o,cap,hl,he,h0,htb,hR1⟩ | ⟨hl,a,e1,he1,hrc⟩)⟩<;>refine Hid.out ?_)
 ·have hno:=hid (fun h=>yT hl h);have hre:=hid (fun t j hj h=>BO (t:=t) (j:=j) hl hj h);have hr:=hR1.fA;have ht:=hR1.lt;have m1:w.heap.size≠rb:=by omega
  have n1:rb≠w.heap.size:=by omega
  have n3:tb≠w.heap.size:=by omega
  have d3:=hR1.cells.2.2.2;have y1:=(hb1.block w.heap.size (by omega)).trans y0;have cT:=hid (Tryz.ZY he l.length 1 0 w1 0 (by omega) (by decide) h0 hR1);have hB1:=hid (hB0.trans (hb1.mono (by omega)));refine hid ?_
  go_wp2_with (go_at_call 175;refine cT.out.mono ?_;rintro e w2 ⟨val,t,j,a1,e1,rfl,hd,hij,hR2,hK2,hdis⟩;refine Hid.out ?_)
  obtain ⟨n0,l0⟩:=t;obtain ⟨u,rfl,hu⟩:=rdt hd;obtain ⟨a3,c3,rfl,_⟩:=rdl hu;have y2:=(hK2.block w.heap.size (by omega) m1).trans y1;have hz2:=hK2.size;obtain ⟨W3,hW3⟩:∃ W,w2.alloc (.cells #[.string ⟨n0.toArray⟩,.slice a3 l0.length c3] 42)=W:=⟨_,rfl⟩
  have hs3:W3.heap.size=w2.heap.size+1:=by rw [← hW3];simp
  have hB23:Below w2.heap.size w2 W3:=by rw [← hW3];exact (Below.refl _ w2).alloc (Nat.le_refl _) _
  have x3:W3.heap[w2.heap.size]?=some (.cells #[.string ⟨n0.toArray⟩,.slice a3 l0.length c3] 42 (0,0)):=by rw [← hW3];exact heap_alloc_new w2 _
  have y3:=(hB23.block w.heap.size (by omega)).trans y2;have hB3:=hid ((hB1.out.trans (hK2.below' (by omega) (by omega))).trans (hB23.mono (by omega)));have cE:=Tryz.ajT (hR2.keep hB23 (by omega) (by omega)) hij.2;have hre1:=hid (hre.out (.mk n0 l0) j hij.2);obtain ⟨e3,h3⟩:∃ e3,(if e1=0 then (if l[j].1=0 then 0 else 1) else e1)=e3:=⟨_,rfl⟩
  rw [h3] at cE;have hfin:(e3=0∧gQ s=some (.mk n0 l0))∨(e3≠0∧gQ s=none):=by
   rw [← h3];rcases hdis with ⟨h,hp,_⟩ | ⟨h,hp⟩
   ·rw [if_pos h,hre1.out hp];by_cases hk:l[j].1=0
    ·exact .inl ⟨if_pos hk,if_pos hk⟩
    ·exact .inr ⟨by rw [if_neg hk];decide,if_neg hk⟩
   ·rw [if_neg h];exact .inr ⟨h,hno.out hp⟩
  clear h3 hdis
  replace hd:=hid (hd.mono (fun b hb=>hB23.block b hb.2) (fun b hb=>(⟨hb.1,by omega⟩:w1.heap.size≤b∧b<W3.heap.size)))
  replace hfin:=hid hfin
  refine hid ?_
  go_wp2_with (go_at_call 176;refine cE.mono ?_;rintro e w4 ⟨rfl,⟨a4,hR4⟩,hK4⟩;refine Hid.out ?_)
  have x4:=(hK4.block w2.heap.size (by omega) (by omega)).trans x3;have y4:=(hK4.block w.heap.size (by omega) m1).trans y3;obtain ⟨a0,b1,a2,b3⟩:=aC y4;obtain ⟨c0,c1,c2,c3'⟩:=aC x4;have hB4:=hid (hB3.out.trans (hK4.below' (by omega) (by omega)));have d4:=hR4.cells.2.2.2;have d5:=hR4.cells.2.2.1;have hz4:=hK4.size
  replace hd:=hid (hd.out.mono (fun b hb=>hK4.block b hb.2 (by omega)) (fun b hb=>(⟨hb.1,by omega⟩:w1.heap.size≤b∧b<w4.heap.size)))
  by_cases he3:e3=0
  ·subst he3;refine hid ?_;have hyes:=hid (hfin.out.resolve_right (fun h=>h.1 rfl)).2
   go_wp2_with fail
   refine bodyPost_ret (v := .tuple #[.agg #[.string ⟨n0.toArray⟩,.slice a3 l0.length c3],.int .i64 0,.int .i64 0]) (by simp [results,Tryz.results107,go_sem,a0,b1]) rfl ?_;refine .inl ⟨.mk n0 l0,_,0,hyes.out,rfl,hd.out.mono (fun b hb=>?_) (fun b hb=>⟨by omega,by simpa [World.setCell] using hb.2⟩),(hB4.out.setCell (p:=⟨w.heap.size,0,none⟩) (Nat.le_refl _) _).setCell (p:=⟨w.heap.size,1,none⟩) (Nat.le_refl _) _⟩;exact (aA _ _ _ (by simp;omega)).trans (aA _ _ _ (by simp;omega))
  ·have he3':(e3==0)=false:=(by simpa using he3);refine hid ?_;have hnone:=hid (hfin.out.resolve_left (fun h=>he3 h.1)).2
   go_wp2_with fail
   go_region
   all_goals go_wp2
   all_goals
    refine bodyPost_ret (v := .tuple #[.agg #[.string ⟨#[]⟩,.slice none 0 0],.int .i64 a4,.int .i64 e3]) (by simp [results,Tryz.results107,go_sem,a0,b1]) rfl ?_;exact bad.out a4 e3 w4 hnone.out he3 hB4.out
 ·have hno:=hid (BP hl);have m1:w.heap.size≠rb:=by omega
  have n1:rb≠w.heap.size:=by omega
  obtain ⟨d0,d1,d2,d3⟩:w1.cell? ⟨rb,0,none⟩=some (.slice none 0 0)∧w1.cell? ⟨rb,1,none⟩=some (.int .i64 0)∧w1.cell? ⟨rb,2,none⟩=some (.int .i64 a)∧w1.cell? ⟨rb,3,none⟩=some (.int .i64 e1):=by simp [World.cell?,hrc]
  obtain ⟨a0,a1,a2,a3⟩:=aC ((hb1.block w.heap.size (by omega)).trans y0);have hB1:=hid (hB0.trans (hb1.mono (by omega)));have he1':(e1==0)=false:=by simpa using he1
  refine hid ?_
  go_wp2_with fail
  go_region
  all_goals go_wp2
  all_goals
   refine bodyPost_ret (v := .tuple #[.agg #[.string ⟨#[]⟩,.slice none 0 0],.int .i64 a,.int .i64 e1]) (by simp [results,Tryz.results107,go_sem,a0,a1]) rfl ?_;exact bad.out a e1 w1 hno.out he1 hB1.out
def Ji (res:Option Tm) (w:World) (e:Ending) (w':World):Prop:=
 Below w.heap.size w w'∧∃ t val b,e = .returned (.tuple #[val,.bool b])∧RdD (fun b=>w.heap.size≤b∧b<w'.heap.size) w' val (enT t)∧((res=some t∧b=true)∨(res=none∧b=false))
set_option maxHeartbeats 1000000 in
set_option maxRecDepth 100000 in
theorem Tryz.Jt (s:Str) (hs:s.length≤16384) (w:World) :
  Calls Tryz.prog 58 #[.string ⟨s.toArray⟩] w (Ji (sS s) w):=by
 obtain ⟨W0,hW0⟩:∃ W,w.alloc (.cells #[.string ⟨#[]⟩,.slice none 0 0] 42)=W:=⟨_,rfl⟩
 have hs0:W0.heap.size=w.heap.size+1:=by rw [← hW0];simp
 have hB0:Below w.heap.size w W0:=by rw [← hW0];exact (Below.refl _ w).alloc (Nat.le_refl _) _
 have y0:W0.heap[w.heap.size]?=some (.cells #[.string ⟨#[]⟩,.slice none 0 0] 42 (0,0)):=by rw [← hW0];exact heap_alloc_new w _
 have c:=Tryz.aef s hs W0;have hrf:sS s=match gQ s with | some t=>if bH false 4 t=true∧aH t=s then some t else none | none=>none:=rfl
 generalize gQ s=rT at c hrf;generalize sS s=rf at hrf ⊢;have fin:∀ (W:World) (n0:Str) (l0:List Tm) (a3:Option Addr) (c3:Nat) (b:Bool),Below W0.heap.size W0 W→RdD (fun b=>w.heap.size+1≤b∧b<W.heap.size) W (.agg #[.string ⟨n0.toArray⟩,.slice a3 l0.length c3]) (enT (.mk n0 l0)) →
   ((rf=some (.mk n0 l0)∧b=true)∨(rf=none∧b=false))→Ji rf w (.returned (.tuple #[.agg #[.string ⟨n0.toArray⟩,.slice a3 l0.length c3],.bool b])) ((W.setCell ⟨w.heap.size,0,none⟩ (.string ⟨n0.toArray⟩)).setCell ⟨w.heap.size,1,none⟩ (.slice a3 l0.length c3)):=fun W n0 l0 a3 c3 b hB hd hr=>by
  refine ⟨((hB0.trans (hB.mono (by omega))).setCell (p:=⟨w.heap.size,0,none⟩) (Nat.le_refl _) _).setCell (p:=⟨w.heap.size,1,none⟩) (Nat.le_refl _) _,.mk n0 l0,_,b,rfl,?_,hr⟩;have key:∀ k,k≠w.heap.size→((W.setCell ⟨w.heap.size,0,none⟩ (.string ⟨n0.toArray⟩)).setCell ⟨w.heap.size,1,none⟩ (.slice a3 l0.length c3)).heap[k]?=W.heap[k]?:=fun k hk=>(aA _ ⟨w.heap.size,1,none⟩ _ hk).trans (aA _ ⟨w.heap.size,0,none⟩ _ hk)
  have hz:((W.setCell ⟨w.heap.size,0,none⟩ (.string ⟨n0.toArray⟩)).setCell ⟨w.heap.size,1,none⟩ (.slice a3 l0.length c3)).heap.size=W.heap.size:=by simp [World.setCell]
  exact hd.mono (fun k hk=>key k (by omega)) (fun k hk=>⟨by omega,by rw [hz];exact hk.2⟩)
 replace fin:=hid fin
 go_enter Tryz.func58,Tryz.ntmps58
 go_wp2_with (go_at_call 107;refine c.mono ?_;rintro e w2 (⟨t,val,a2,rfl,rfl,hd2,hb2⟩ | ⟨rfl,a2,e2,he2,rfl,hb2⟩)<;>refine Hid.out ?_)
 ·obtain ⟨n0,l0⟩:=t;obtain ⟨u,rfl,hu⟩:=rdt hd2;obtain ⟨a3,c3,rfl,_⟩:=rdl hu;obtain ⟨W3,hW3⟩:∃ W,w2.alloc (.cells #[.string ⟨n0.toArray⟩,.slice a3 l0.length c3] 42)=W:=⟨_,rfl⟩
  have hs3:W3.heap.size=w2.heap.size+1:=by rw [← hW3];simp
  have hB23:Below w2.heap.size w2 W3:=by rw [← hW3];exact (Below.refl _ w2).alloc (Nat.le_refl _) _
  have x3:W3.heap[w2.heap.size]?=some (.cells #[.string ⟨n0.toArray⟩,.slice a3 l0.length c3] 42 (0,0)):=by rw [← hW3];exact heap_alloc_new w2 _
  have hB3:=hid (hb2.trans (hB23.mono hb2.size));have hd3:=hid (hd2.mono (ok':=fun b=>w.heap.size+1≤b∧b<W3.heap.size) (fun b hb=>hB23.block b hb.2) (fun b hb=>⟨by omega,by omega⟩));obtain ⟨a0,a1,a2',a3'⟩:=aC ((hB3.out.block w.heap.size (by omega)).trans y0);obtain ⟨c0,c1,_,_⟩:=aC x3;have hz2:=hb2.size;have m1:w2.heap.size≠w.heap.size:=by omega
  have m2:w.heap.size≠w2.heap.size:=by omega
  have mv:∀ W,Below W3.drew.heap.size W3.drew W→RdD (fun b=>w.heap.size+1≤b∧b<W.heap.size) W (.agg #[.string ⟨n0.toArray⟩,.slice a3 l0.length c3]) (enT (.mk n0 l0)):=fun W hb=>by
   have h:=hd3.out;refine h.mono (fun b hb'=>?_) (fun b hb'=>?_)
   ·exact hb.block b hb'.2
   ·exact ⟨hb'.1,Nat.lt_of_lt_of_le hb'.2 hb.size⟩
  replace mv:=hid mv
  have cG:=Tryz.akm (.mk n0 l0) W3.drew _ (aO (Below.refl _ W3).drew (hd3.out.mono (fun _ _=>rfl) (fun _ h=>h.2)))
  replace hrf:rf=if bH false 4 (.mk n0 l0)=true∧aH (.mk n0 l0)=s then some (.mk n0 l0) else none:=hrf
  cases hg:bH false 4 (.mk n0 l0) with
  | false=>
    rw [hg] at cG;have hrf:=hid (hrf.trans (if_neg (by rw [hg];simp)));refine hid ?_
    go_wp2_with fail
    first
     | go_region_law (first | (go_simp;go_at_call 108;refine cG.mono ?_;rintro e w5 ⟨rfl,hb5⟩;have s0:=(hb5.cell (p:=⟨w2.heap.size,0,none⟩) (show w2.heap.size<W3.heap.size by omega)).trans c0;have s1:=(hb5.cell (p:=⟨w2.heap.size,1,none⟩) (show w2.heap.size<W3.heap.size by omega)).trans c1;obtain ⟨b0,b1,b2,b3⟩:=aC ((hb5.block w.heap.size (show w.heap.size<W3.heap.size by omega)).trans ((hB3.out.block w.heap.size (by omega)).trans y0));replace hb5:=hid hb5))
     | fail
    all_goals go_wp2
    all_goals
     refine bodyPost_ret (v := .tuple #[.agg #[.string ⟨n0.toArray⟩,.slice a3 l0.length c3],.bool false]) (by simp [results,Tryz.results58,go_sem,b0,b1]) rfl ?_;exact fin.out w5 n0 l0 a3 c3 false (hB3.out.drew.trans (hb5.out.mono hB3.out.size)) (mv.out w5 hb5.out) (.inr ⟨hrf.out,rfl⟩)
  | true=>
    rw [hg] at cG;have hlen:=nO 4 _ hg;rw [Ub] at hlen;have cX:=hid (fun (W:World) (hb:Below W3.drew.heap.size W3.drew W)=>Tryz.ajQ (.mk n0 l0) W _ (aO hb (aO (Below.refl _ W3).drew (hd3.out.mono (fun _ _=>rfl) (fun _ h=>h.2)))) (by omega));have hrf2:rf=if aH (.mk n0 l0)=s then some (.mk n0 l0) else none:=(by rw [hrf];simp only [hg,true_and]);generalize aH (.mk n0 l0)=tx at *;have hbq:((tx==s)=true∧tx=s)∨((tx==s)=false∧tx≠s):=by
     by_cases h:tx=s
     ·exact .inl ⟨by simpa using h,h⟩
     ·exact .inr ⟨by simpa using h,h⟩
    replace hbq:=hid hbq
    replace hrf2:=hid hrf2
    clear hrf hlen;refine hid ?_
    go_wp2_with fail
    go_region_held3 (fun w'=>w'.cell? ⟨w2.heap.size,0,none⟩=some (.string ⟨n0.toArray⟩)∧w'.cell? ⟨w2.heap.size,1,none⟩=some (.slice a3 l0.length c3)) (go_keep) (first | (go_at_call 108;refine cG.mono ?_;rintro e w5 ⟨rfl,hb5⟩;have s0:=(hb5.cell (p:=⟨w2.heap.size,0,none⟩) (show w2.heap.size<W3.heap.size by omega)).trans c0;have s1:=(hb5.cell (p:=⟨w2.heap.size,1,none⟩) (show w2.heap.size<W3.heap.size by omega)).trans c1;obtain ⟨b0,b1,b2,b3⟩:=aC ((hb5.block w.heap.size (show w.heap.size<W3.heap.size by omega)).trans ((hB3.out.block w.heap.size (by omega)).trans y0));replace hb5:=hid hb5) | (go_at_call 109;refine (cX.out w5 hb5.out).mono ?_;rintro e w6 ⟨rfl,hb6⟩;have hz5:W3.heap.size≤w5.heap.size:=hb5.out.size;have t0:=(hb6.cell (p:=⟨w2.heap.size,0,none⟩) (show w2.heap.size<w5.heap.size by omega)).trans s0;have t1:=(hb6.cell (p:=⟨w2.heap.size,1,none⟩) (show w2.heap.size<w5.heap.size by omega)).trans s1;have hB6:=hid (hb5.out.trans (hb6.mono hb5.out.size));obtain ⟨b0,b1,b2,b3⟩:=aC ((hB6.out.block w.heap.size (show w.heap.size<W3.heap.size by omega)).trans ((hB3.out.block w.heap.size (by omega)).trans y0))))
    rcases hbq.out with ⟨e1,e2⟩ | ⟨e1,e2⟩
    ·have hrf3:=hrf2.out.trans (if_pos e2)
     replace hrf3:=hid hrf3
     replace e2:=hid e2
     go_wp2
     refine bodyPost_ret (v := .tuple #[.agg #[.string ⟨n0.toArray⟩,.slice a3 l0.length c3],.bool true]) (by simp [results,Tryz.results58,go_sem,b0,b1,e1]) rfl ?_;exact fin.out w6 n0 l0 a3 c3 true (hB3.out.drew.trans (hB6.out.mono hB3.out.size)) (mv.out w6 hB6.out) (.inl ⟨hrf3.out,rfl⟩)
    ·have hrf3:=hrf2.out.trans (if_neg e2)
     replace hrf3:=hid hrf3
     replace e2:=hid e2
     go_wp2
     refine bodyPost_ret (v := .tuple #[.agg #[.string ⟨n0.toArray⟩,.slice a3 l0.length c3],.bool false]) (by simp [results,Tryz.results58,go_sem,b0,b1,e1]) rfl ?_;exact fin.out w6 n0 l0 a3 c3 false (hB3.out.drew.trans (hB6.out.mono hB3.out.size)) (mv.out w6 hB6.out) (.inr ⟨hrf3.out,rfl⟩)
 ·obtain ⟨W3,hW3⟩:∃ W,w2.alloc (.cells #[.string ⟨#[]⟩,.slice none 0 0] 42)=W:=⟨_,rfl⟩
  have hB23:Below w2.heap.size w2 W3:=by rw [← hW3];exact (Below.refl _ w2).alloc (Nat.le_refl _) _
  have x3:W3.heap[w2.heap.size]?=some (.cells #[.string ⟨#[]⟩,.slice none 0 0] 42 (0,0)):=by rw [← hW3];exact heap_alloc_new w2 _
  have hB3:=hid (hb2.trans (hB23.mono hb2.size));obtain ⟨a0,a1,a2',a3'⟩:=aC ((hB3.out.block w.heap.size (by omega)).trans y0);obtain ⟨c0,c1,_,_⟩:=aC x3;have he2':(e2==0)=false:=by simpa using he2
  replace hrf:=hid hrf
  subst hW3;refine hid ?_
  go_wp2_with fail
  go_region
  all_goals go_wp2
  all_goals
   refine bodyPost_ret (v := .tuple #[.agg #[.string ⟨#[]⟩,.slice none 0 0],.bool false]) (by simp [results,Tryz.results58,go_sem,a0,a1]) rfl ?_;exact fin.out (World.drew _) [] [] none 0 false hB3.out.drew (rd_mk (Nat.zero_le _) (.mO none)) (.inr ⟨hrf.out,rfl⟩)
end Go.Proofs
