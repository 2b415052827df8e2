/- The order of lists of terms, as the reference and as the program tell it. -/
import Derived.Test.YtpmapognbdiahaaGreatDoorPwAAnd
import Derived.Deep.RegionHeld3
import Derived.Deep.CutRange
import Derived.Test.YtpmapognbdiahaaGreatDoorProg
import Derived.Shelf.Lays
import Derived.Shelf.Strings.BuilderK
import Derived.Shelf.Strings.OnBuilder
import Derived.Shelf.Abstract
import Derived.Ground.NamesProg
import Derived.WalkKit
import Derived.Test.YtpmapognbdiahaaGreatDoorTmMAnd
import Derived.Tactics
import Derived.Tactics2
import Derived.Defers
import Derived.Recover
import Derived.Below
import Derived.Laws.Pointers
set_option linter.all false
namespace Go.Proofs
open Go Go.RowKit Go.Shelf Go.Abs Go.Own Go.Proofs.YtpmapognbdiahaaGreatDoor
def ZO (P:Program) (f:FuncId) (x:Tm):Prop:=∀ (y:Tm) (w:World) (v u:Value),RdD (fun b=>b<w.heap.size) w v (enT x)→RdD (fun b=>b<w.heap.size) w u (enT y)→Calls P f #[v,u] w fun e w'=>e = .returned (.int .i64 (jD x y))∧Below w.heap.size w w'
theorem vS {l:List Tm} {a:Option Addr} {cap:Nat} {p:Nat→Prop} {q:Nat→Nat→Prop} (h:l=[]∨∃ b o,a=some ⟨b,o,none⟩∧p b∧l.length≤cap∧cap≤maxLen∧q b o):l.length≤9223372036854775807:=by
 rcases h with rfl | ⟨b,o,_,_,h1,h2,_⟩
 ·simp
 ·simp only [maxLen] at h2;omega
set_option maxHeartbeats 4000000 in
set_option maxRecDepth 100000 in
theorem Tryz.aag (l m:List Tm) (h:∀ x∈l,ZO Tryz.prog 59 x) (w:World) (v u:Value) (hv:RdD (fun b=>b<w.heap.size) w v (.list (l.map enT))) (hu:RdD (fun b=>b<w.heap.size) w u (.list (m.map enT))) :
  Calls Tryz.prog 60 #[v,u] w fun e w'=>e = .returned (.int .i64 (fQ l m))∧Below w.heap.size w w':=by
 obtain ⟨a,cap,rfl,hcs⟩:=rdl hv;obtain ⟨a2,cap2,rfl,hcs2⟩:=rdl hu;have hl1:=vS hcs;have hl2:=vS hcs2
 replace hcs:=hid hcs
 replace hcs2:=hid hcs2
 replace h:=hid h
 have hsg:=hid (Tryz.signs l.length m.length).1;clear hv hu
 go_enter Tryz.func60,Tryz.ntmps60
 go_wp2_with fail
 go_loopw [5] (fun vi wr=>∃ i:Nat,vi = .int .i64 i∧i≤l.length∧i≤m.length∧Hid (fQ l m=fQ (l.drop i) (m.drop i))∧Hid (Below w.heap.size w wr)) (fun vi _=>l.length-(intOf vi).toNat)
 case atStart=>exact ⟨0,rfl,Nat.zero_le _,Nat.zero_le _,hid rfl,hid (Below.refl _ _)⟩
 case round=>
  obtain ⟨i,rfl,hi,hj,ht,hB⟩:=hrel;by_cases h1:i<l.length
  ·by_cases h2:i<m.length
   ·obtain ⟨b,o,rfl,hb,hlc,hcm,hcs⟩:=hcs.out.resolve_left (fun h=>by rw [h] at h1;simp at h1);obtain ⟨b2,o2,rfl,hb2,hlc2,hcm2,hcs2⟩:=hcs2.out.resolve_left (fun h=>by rw [h] at h2;simp at h2);obtain ⟨u0,u1,c0,c1,hr⟩:=hcs i h1;obtain ⟨v0,v1,d0,d1,hr2⟩:=hcs2 i h2;have c0:=(hB.out.cell (p:=⟨b,o+i*2,none⟩) hb).trans c0;have c1:=(hB.out.cell (p:=⟨b,o+(i*2+1),none⟩) hb).trans c1;have d0:=(hB.out.cell (p:=⟨b2,o2+i*2,none⟩) hb2).trans d0;have d1:=(hB.out.cell (p:=⟨b2,o2+(i*2+1),none⟩) hb2).trans d1;rw [← Nat.add_assoc] at c1 d1;have cC:=hid (fun (W:World) (hW:Below wr.heap.size wr W)=>h.out _ (List.getElem_mem h1) m[i] W _ _ (aO hW (aO hB.out hr)) (aO hW (aO hB.out hr2)));have hst:=Ah h1 h2;clear hcs hcs2 hr hr2;simp only [maxLen] at hcm hcm2;generalize jD l[i] m[i]=k at *;have h11:=hid h1;have hbl:b<wr.heap.size:=Nat.lt_of_lt_of_le hb hB.out.size;have hbl2:b2<wr.heap.size:=Nat.lt_of_lt_of_le hb2 hB.out.size;have h22:=hid h2;by_cases hk:k=0
    ·subst hk;have hst:=hid (ht.out.trans (hst.trans (if_neg (by omega))))
     go_wp2_with fail
     go_region_held3 (fun w'=>w'.cell? ⟨b,o+i*2,none⟩=some u0∧w'.cell? ⟨b,o+i*2+1,none⟩=some u1∧w'.cell? ⟨b2,o2+i*2,none⟩=some v0∧w'.cell? ⟨b2,o2+i*2+1,none⟩=some v1) (go_keep) (first | (go_at_call 59;refine (cC.out _ (Below.refl _ wr).drew).mono ?_;rintro e w1 ⟨rfl,hb1⟩;have s0:=(hb1.cell (p:=⟨b,o+i*2,none⟩) hbl).trans c0;have s1:=(hb1.cell (p:=⟨b,o+i*2+1,none⟩) hbl).trans c1;have s2:=(hb1.cell (p:=⟨b2,o2+i*2,none⟩) hbl2).trans d0;have s3:=(hb1.cell (p:=⟨b2,o2+i*2+1,none⟩) hbl2).trans d1;replace hb1:=hid hb1))
     all_goals go_wp2_with fail
     exact ⟨⟨i+1,by go_num,h11.out,h22.out,hst,hid (hB.out.trans ((Below.refl _ wr).drew.trans hb1.out |>.mono hB.out.size))⟩,by have:=h11.out;simp [intOf];omega⟩
    ·have hst:=hid (ht.out.trans (hst.trans (if_pos hk)));have hkb:(k != 0)=true:=by simpa using hk
     replace hk:=hid hk
     go_wp2_with fail
     go_region_held3 (fun w'=>w'.cell? ⟨b,o+i*2,none⟩=some u0∧w'.cell? ⟨b,o+i*2+1,none⟩=some u1∧w'.cell? ⟨b2,o2+i*2,none⟩=some v0∧w'.cell? ⟨b2,o2+i*2+1,none⟩=some v1) (go_keep) (first | (go_at_call 59;refine (cC.out _ (Below.refl _ wr).drew).mono ?_;rintro e w1 ⟨rfl,hb1⟩;have s0:=(hb1.cell (p:=⟨b,o+i*2,none⟩) hbl).trans c0;have s1:=(hb1.cell (p:=⟨b,o+i*2+1,none⟩) hbl).trans c1;have s2:=(hb1.cell (p:=⟨b2,o2+i*2,none⟩) hbl2).trans d0;have s3:=(hb1.cell (p:=⟨b2,o2+i*2+1,none⟩) hbl2).trans d1;replace hb1:=hid hb1))
     all_goals go_wp2_with fail
     go_ret
     exact ⟨by rw [hst.out];rfl,hB.out.trans ((Below.refl _ wr).drew.trans hb1.out |>.mono hB.out.size)⟩
   ·have hst:=hid (ht.out.trans (qp hi hj (.inr (by omega))))
    go_wp2_with (go_at_call 110;refine (hsg.out _).mono ?_;rintro e w1 ⟨rfl,rfl⟩)
    go_ret
    exact ⟨by rw [hst.out];rfl,hB.out⟩
  ·have hst:=hid (ht.out.trans (qp hi hj (.inl (by omega))))
   go_wp2_with (go_at_call 110;refine (hsg.out _).mono ?_;rintro e w1 ⟨rfl,rfl⟩)
   go_ret
   exact ⟨by rw [hst.out];rfl,hB.out⟩
set_option maxHeartbeats 4000000 in
set_option maxRecDepth 100000 in
theorem Tryz.akb (l m:List Tm) (h:∀ x∈l,ZO Tryz.prog 47 x) (w:World) (v u:Value) (hv:RdD (fun b=>b<w.heap.size) w v (.list (l.map enT))) (hu:RdD (fun b=>b<w.heap.size) w u (.list (m.map enT))) :
  Calls Tryz.prog 48 #[v,u] w fun e w'=>e = .returned (.int .i64 (fQ l m))∧Below w.heap.size w w':=by
 obtain ⟨a,cap,rfl,hcs⟩:=rdl hv;obtain ⟨a2,cap2,rfl,hcs2⟩:=rdl hu;have hl1:=vS hcs;have hl2:=vS hcs2
 replace hcs:=hid hcs
 replace hcs2:=hid hcs2
 replace h:=hid h
 have hsg:=hid (Tryz.signs l.length m.length).2;clear hv hu
 go_enter Tryz.func48,Tryz.ntmps48
 go_wp2_with fail
 go_loopw [5] (fun vi wr=>∃ i:Nat,vi = .int .i64 i∧i≤l.length∧i≤m.length∧Hid (fQ l m=fQ (l.drop i) (m.drop i))∧Hid (Below w.heap.size w wr)) (fun vi _=>l.length-(intOf vi).toNat)
 case atStart=>exact ⟨0,rfl,Nat.zero_le _,Nat.zero_le _,hid rfl,hid (Below.refl _ _)⟩
 case round=>
  obtain ⟨i,rfl,hi,hj,ht,hB⟩:=hrel;by_cases h1:i<l.length
  ·by_cases h2:i<m.length
   ·obtain ⟨b,o,rfl,hb,hlc,hcm,hcs⟩:=hcs.out.resolve_left (fun h=>by rw [h] at h1;simp at h1);obtain ⟨b2,o2,rfl,hb2,hlc2,hcm2,hcs2⟩:=hcs2.out.resolve_left (fun h=>by rw [h] at h2;simp at h2);obtain ⟨u0,u1,c0,c1,hr⟩:=hcs i h1;obtain ⟨v0,v1,d0,d1,hr2⟩:=hcs2 i h2;have c0:=(hB.out.cell (p:=⟨b,o+i*2,none⟩) hb).trans c0;have c1:=(hB.out.cell (p:=⟨b,o+(i*2+1),none⟩) hb).trans c1;have d0:=(hB.out.cell (p:=⟨b2,o2+i*2,none⟩) hb2).trans d0;have d1:=(hB.out.cell (p:=⟨b2,o2+(i*2+1),none⟩) hb2).trans d1;rw [← Nat.add_assoc] at c1 d1;have cC:=hid (fun (W:World) (hW:Below wr.heap.size wr W)=>h.out _ (List.getElem_mem h1) m[i] W _ _ (aO hW (aO hB.out hr)) (aO hW (aO hB.out hr2)));have hst:=Ah h1 h2;clear hcs hcs2 hr hr2;simp only [maxLen] at hcm hcm2;generalize jD l[i] m[i]=k at *;have h11:=hid h1;have hbl:b<wr.heap.size:=Nat.lt_of_lt_of_le hb hB.out.size;have hbl2:b2<wr.heap.size:=Nat.lt_of_lt_of_le hb2 hB.out.size;have h22:=hid h2;by_cases hk:k=0
    ·subst hk;have hst:=hid (ht.out.trans (hst.trans (if_neg (by omega))))
     go_wp2_with fail
     go_region_held3 (fun w'=>w'.cell? ⟨b,o+i*2,none⟩=some u0∧w'.cell? ⟨b,o+i*2+1,none⟩=some u1∧w'.cell? ⟨b2,o2+i*2,none⟩=some v0∧w'.cell? ⟨b2,o2+i*2+1,none⟩=some v1) (go_keep) (first | (go_at_call 47;refine (cC.out _ (Below.refl _ wr).drew).mono ?_;rintro e w1 ⟨rfl,hb1⟩;have s0:=(hb1.cell (p:=⟨b,o+i*2,none⟩) hbl).trans c0;have s1:=(hb1.cell (p:=⟨b,o+i*2+1,none⟩) hbl).trans c1;have s2:=(hb1.cell (p:=⟨b2,o2+i*2,none⟩) hbl2).trans d0;have s3:=(hb1.cell (p:=⟨b2,o2+i*2+1,none⟩) hbl2).trans d1;replace hb1:=hid hb1))
     all_goals go_wp2_with fail
     exact ⟨⟨i+1,by go_num,h11.out,h22.out,hst,hid (hB.out.trans ((Below.refl _ wr).drew.trans hb1.out |>.mono hB.out.size))⟩,by have:=h11.out;simp [intOf];omega⟩
    ·have hst:=hid (ht.out.trans (hst.trans (if_pos hk)));have hkb:(k != 0)=true:=by simpa using hk
     replace hk:=hid hk
     go_wp2_with fail
     go_region_held3 (fun w'=>w'.cell? ⟨b,o+i*2,none⟩=some u0∧w'.cell? ⟨b,o+i*2+1,none⟩=some u1∧w'.cell? ⟨b2,o2+i*2,none⟩=some v0∧w'.cell? ⟨b2,o2+i*2+1,none⟩=some v1) (go_keep) (first | (go_at_call 47;refine (cC.out _ (Below.refl _ wr).drew).mono ?_;rintro e w1 ⟨rfl,hb1⟩;have s0:=(hb1.cell (p:=⟨b,o+i*2,none⟩) hbl).trans c0;have s1:=(hb1.cell (p:=⟨b,o+i*2+1,none⟩) hbl).trans c1;have s2:=(hb1.cell (p:=⟨b2,o2+i*2,none⟩) hbl2).trans d0;have s3:=(hb1.cell (p:=⟨b2,o2+i*2+1,none⟩) hbl2).trans d1;replace hb1:=hid hb1))
     all_goals go_wp2_with fail
     go_ret
     exact ⟨by rw [hst.out];rfl,hB.out.trans ((Below.refl _ wr).drew.trans hb1.out |>.mono hB.out.size)⟩
   ·have hst:=hid (ht.out.trans (qp hi hj (.inr (by omega))))
    go_wp2_with (go_at_call 96;refine (hsg.out _).mono ?_;rintro e w1 ⟨rfl,rfl⟩)
    go_ret
    exact ⟨by rw [hst.out];rfl,hB.out⟩
  ·have hst:=hid (ht.out.trans (qp hi hj (.inl (by omega))))
   go_wp2_with (go_at_call 96;refine (hsg.out _).mono ?_;rintro e w1 ⟨rfl,rfl⟩)
   go_ret
   exact ⟨by rw [hst.out];rfl,hB.out⟩
theorem adS {w:World} {v u:Value} {n m:Str} {l k:List Tm} (hv:RdD (fun b=>b<w.heap.size) w v (enT (.mk n l))) (hu:RdD (fun b=>b<w.heap.size) w u (enT (.mk m k))) (T:TypeId):∃ a cap a2 cap2,v = .agg #[.string ⟨n.toArray⟩,.slice a l.length cap]∧u = .agg #[.string ⟨m.toArray⟩,.slice a2 k.length cap2]∧l.length≤9223372036854775807∧k.length≤9223372036854775807 ∧
  RdD (fun b=>b<w.heap.size) w (.slice a l.length cap) (.list (l.map enT))∧RdD (fun b=>b<w.heap.size) w (.slice a2 k.length cap2) (.list (k.map enT)) ∧
  ∃ W0,(w.alloc (.cells #[.string ⟨n.toArray⟩,.slice a l.length cap] T)).alloc (.cells #[.string ⟨m.toArray⟩,.slice a2 k.length cap2] T)=W0∧W0.heap.size=w.heap.size+2∧Hid (Below w.heap.size w W0) ∧
  Hid (∀ W,Below W0.heap.size W0 W→W.cell? ⟨w.heap.size,0,none⟩=some (.string ⟨n.toArray⟩)∧W.cell? ⟨w.heap.size,1,none⟩=some (.slice a l.length cap)∧W.cell? ⟨w.heap.size+1,0,none⟩=some (.string ⟨m.toArray⟩)∧W.cell? ⟨w.heap.size+1,1,none⟩=some (.slice a2 k.length cap2)):=by
 obtain ⟨x,rfl,hx⟩:=rdt hv;obtain ⟨y,rfl,hy⟩:=rdt hu;obtain ⟨a,cap,rfl,h1⟩:=rdl hx;obtain ⟨a2,cap2,rfl,h2⟩:=rdl hy;have hB:=((Below.refl w.heap.size w).alloc (Nat.le_refl _) (.cells #[.string ⟨n.toArray⟩,.slice a l.length cap] T));refine ⟨a,cap,a2,cap2,rfl,rfl,vS h1,vS h2,hx,hy,_,rfl,by simp,hid (hB.alloc hB.size _),hid fun W hW=>?_⟩;have e1:=heap_alloc_new (w.alloc (.cells #[.string ⟨n.toArray⟩,.slice a l.length cap] T)) (.cells #[.string ⟨m.toArray⟩,.slice a2 k.length cap2] T);have e0:=(heap_alloc_old (w.alloc (.cells #[.string ⟨n.toArray⟩,.slice a l.length cap] T)) (.cells #[.string ⟨m.toArray⟩,.slice a2 k.length cap2] T) (show w.heap.size<(w.alloc (.cells #[.string ⟨n.toArray⟩,.slice a l.length cap] T)).heap.size by simp)).trans (heap_alloc_new w _);rw [World.size_alloc] at e1;obtain ⟨q0,q1,_,_⟩:=aC ((hW.block _ (by simp;omega)).trans e0);obtain ⟨q2,q3,_,_⟩:=aC ((hW.block _ (by simp)).trans e1);exact ⟨q0,q1,q2,q3⟩
set_option maxHeartbeats 4000000 in
set_option maxRecDepth 100000 in
theorem Tryz.adP:∀ x:Tm,ZO Tryz.prog 59 x:=Tm.ind fun x ih y w v u hv hu=>by
 have c1:=fun W h1=>Tryz.adQ x W v h1
 have c2:=fun W h1=>Tryz.adQ y W u h1
 obtain ⟨n,l⟩:=x;obtain ⟨m,k⟩:=y;simp only [Tm.args] at ih;have ct:jD (.mk n l) (.mk m k)=if jc (cu (.mk n l)) (cu (.mk m k))≠0 then jc (cu (.mk n l)) (cu (.mk m k)) else if cu (.mk n l)=0 then jc (oQ n) (oQ m) else if l.length≠k.length then jc l.length k.length else if fH n m≠0 then fH n m else fQ l k:=by rw [jD]
 obtain ⟨a,cap,a2,cap2,rfl,rfl,hl,hk,hra,hrb,W0,hW0,hs0,hB0,hK⟩:=adS hv hu 42;have cL:=hid (fun (W:World) (hW:Below w.heap.size w W)=>Tryz.aag l k ih W _ _ (aO hW hra) (aO hW hrb));have c1:=hid (fun (W:World) (hW:Below w.heap.size w W)=>c1 W (aO hW hv));have c2:=hid (fun (W:World) (hW:Below w.heap.size w W)=>c2 W (aO hW hu));generalize jD (.mk n l) (.mk m k)=r at ct ⊢;generalize cu (.mk n l)=x1 at *;generalize cu (.mk m k)=x2 at *;generalize fQ l k=x3 at *
 replace ct:=hid ct
 have sg:=hid (Tryz.signs x1 x2).1;have sl:=hid (Tryz.signs l.length k.length).1;have sv:=hid (Tryz.signs (oQ n) (oQ m)).1;have vn:=hid (Tryz.ZT n);have vm:=hid (Tryz.ZT m);have st:=hid (Tryz.agZ n m);clear hra hrb hv hu ih;obtain ⟨q0,q1,q2,q3⟩:=hK.out W0.drew (Below.refl _ _).drew;have hT:=hid (fun (W W':World) (h:Hid (Below W0.heap.size W0 W)) (h':Below W.heap.size W W')=>hid (h.out.trans (h'.mono h.out.size)));have hF:=hid (fun (W:World) (h:Hid (Below W0.heap.size W0 W))=>hid (hB0.out.trans (h.out.mono hB0.out.size)));have hd0:Hid (Below W0.heap.size W0 W0.drew):=hid (Below.refl _ _).drew;generalize jc x1 x2=c at *;generalize fH n m=z at *
 go_enter Tryz.func59,Tryz.ntmps59
 go_wp2_with fail
 go_region_held3 (fun w'=>w'.cell? ⟨w.heap.size,0,none⟩=some (.string ⟨n.toArray⟩)∧w'.cell? ⟨w.heap.size,1,none⟩=some (.slice a l.length cap)∧w'.cell? ⟨w.heap.size+1,0,none⟩=some (.string ⟨m.toArray⟩)∧w'.cell? ⟨w.heap.size+1,1,none⟩=some (.slice a2 k.length cap2)) (go_keep) (first
  | (go_at_call 111;with_reducible refine (c1.out _ (hF.out _ hd0).out).mono ?_;rintro e w1 ⟨rfl,hb1⟩;have hd1:=hT.out _ _ hd0 hb1;clear hb1;obtain ⟨p0,p1,p2,p3⟩:=hK.out w1 hd1.out)
  | (go_at_call 111;with_reducible refine (c2.out _ (hF.out _ hd1).out).mono ?_;rintro e w2 ⟨rfl,hb2⟩;have hd2:=hT.out _ _ hd1 hb2;clear hb2;obtain ⟨r0,r1,r2,r3⟩:=hK.out w2 hd2.out)
  | (go_at_call 110;refine (sg.out _).mono ?_;rintro e w3 ⟨rfl,rfl⟩))
 by_cases hc:c=0
 case neg=>
  have hcb:(c != 0)=true:=by simpa using hc
  replace ct:=hid (ct.out.trans (if_pos hc))
  replace hc:=hid hc
  go_wp2_with fail
  go_ret
  exact ⟨by rw [ct.out];rfl,(hF.out _ hd2).out⟩
 subst hc
 replace ct:=hid (ct.out.trans (if_neg (by omega)))
 by_cases h1:x1=0
 ·subst h1
  replace ct:=hid (ct.out.trans (if_pos rfl))
  go_wp2_with (go_at_call 111;with_reducible refine (c1.out _ (hF.out _ hd2).out).mono ?_;rintro e w4 ⟨rfl,hb4⟩;have hd4:=hT.out _ _ hd2 hb4;clear hb4;obtain ⟨t0,t1,t2,t3⟩:=hK.out w4 hd4.out)
  go_region_held3 (fun w'=>w'.cell? ⟨w.heap.size,0,none⟩=some (.string ⟨n.toArray⟩)∧w'.cell? ⟨w.heap.size,1,none⟩=some (.slice a l.length cap)∧w'.cell? ⟨w.heap.size+1,0,none⟩=some (.string ⟨m.toArray⟩)∧w'.cell? ⟨w.heap.size+1,1,none⟩=some (.slice a2 k.length cap2)) (go_keep) (first
   | (go_at_call 112;with_reducible refine (vn.out _).mono ?_;rintro e w5 ⟨rfl,rfl⟩)
   | (go_at_call 112;with_reducible refine (vm.out _).mono ?_;rintro e w6 ⟨rfl,rfl⟩)
   | (go_at_call 110;with_reducible refine (sv.out _).mono ?_;rintro e w7 ⟨rfl,rfl⟩))
  all_goals go_wp2_with fail
  go_ret
  exact ⟨by rw [ct.out];rfl,(hF.out _ (hid hd4.out.drew)).out⟩
 ·have h1b:(x1==0)=false:=by simpa using h1
  replace ct:=hid (ct.out.trans (if_neg h1))
  replace h1:=hid h1
  by_cases h2:l.length=k.length
  ·have h2b:((l.length:Int) != (k.length:Int))=false:=by rw [h2];simp
   replace ct:=hid (ct.out.trans (if_neg (by omega)))
   replace h2:=hid h2
   have st:=st.out;by_cases h3:z=0
   ·subst h3
    replace ct:=hid (ct.out.trans (if_neg (by omega)))
    go_wp2_with (first
     | (go_at_call 111;with_reducible refine (c1.out _ (hF.out _ hd2).out).mono ?_;rintro e w4 ⟨rfl,hb4⟩;have hd4:=hT.out _ _ hd2 hb4;clear hb4;obtain ⟨t0,t1,t2,t3⟩:=hK.out w4 hd4.out)
     | (go_at_call 113;refine (st _).mono ?_;rintro e w5 ⟨rfl,rfl⟩)
     | (go_at_call 60;refine (cL.out _ (hF.out _ hd4).out).mono ?_;rintro e w6 ⟨rfl,hb6⟩;have hd6:=hT.out _ _ hd4 hb6;clear hb6))
    go_ret
    exact ⟨by rw [ct.out];rfl,(hF.out _ hd6).out⟩
   ·have hzb:(z != 0)=true:=by simpa using h3
    replace ct:=hid (ct.out.trans (if_pos h3))
    replace h3:=hid h3
    go_wp2_with (first
     | (go_at_call 111;with_reducible refine (c1.out _ (hF.out _ hd2).out).mono ?_;rintro e w4 ⟨rfl,hb4⟩;have hd4:=hT.out _ _ hd2 hb4;clear hb4;obtain ⟨t0,t1,t2,t3⟩:=hK.out w4 hd4.out)
     | (go_at_call 113;refine (st _).mono ?_;rintro e w5 ⟨rfl,rfl⟩))
    go_ret
    exact ⟨by rw [ct.out];rfl,(hF.out _ hd4).out⟩
  ·have h2b:((l.length:Int) != (k.length:Int))=true:=by simp;omega
   replace ct:=hid (ct.out.trans (if_pos h2))
   replace h2:=hid h2
   go_wp2_with (first
    | (go_at_call 111;with_reducible refine (c1.out _ (hF.out _ hd2).out).mono ?_;rintro e w4 ⟨rfl,hb4⟩;have hd4:=hT.out _ _ hd2 hb4;clear hb4;obtain ⟨t0,t1,t2,t3⟩:=hK.out w4 hd4.out)
    | (go_at_call 110;refine (sl.out _).mono ?_;rintro e w5 ⟨rfl,rfl⟩))
   go_ret
   exact ⟨by rw [ct.out];rfl,(hF.out _ hd4).out⟩
def kV (t:Tm):Int:=if cu t=0 then oQ t.name else 0
def kN (t:Tm):Str:=if cu t=0 then [] else t.name
def Ud (t:Tm):Value := .agg #[.int .i64 (cu t),.int .i64 (kV t),.int .i64 t.args.length,.string ⟨(kN t).toArray⟩]
def ag6 (w:World) (b:Nat) (x y z u:Value):World:=(((w.setCell ⟨b,0,none⟩ x).setCell ⟨b,1,none⟩ y).setCell ⟨b,2,none⟩ z).setCell ⟨b,3,none⟩ u
theorem yV {w w':World} {B b:Nat} (h:Below B w w') (hb:B≤b) (x y z u:Value):Below B w (ag6 w' b x y z u):=(((h.setCell (p:=⟨b,0,none⟩) hb _).setCell (p:=⟨b,1,none⟩) hb _).setCell (p:=⟨b,2,none⟩) hb _).setCell (p:=⟨b,3,none⟩) hb _
theorem fZ {w:World} {b:Nat} {x y z u:Value} {T:TypeId} (h:w.heap[b]?=some (.cells #[x,y,z,u] T (0,0))) :
  (w.cell? ⟨b,0,none⟩=some x∧w.cell? ⟨b,1,none⟩=some y∧w.cell? ⟨b,2,none⟩=some z∧w.cell? ⟨b,3,none⟩=some u) ∧
  (w.frozen? ⟨b,0,none⟩=false∧w.frozen? ⟨b,1,none⟩=false∧w.frozen? ⟨b,2,none⟩=false∧w.frozen? ⟨b,3,none⟩=false):=by
 simp [World.cell?,World.frozen?,h]
set_option maxHeartbeats 2000000 in
set_option maxRecDepth 100000 in
theorem Tryz.aah (t:Tm) (w:World) (v:Value) (hv:RdD (fun b=>b<w.heap.size) w v (enT t)):Calls Tryz.prog 95 #[v] w fun e w'=>e = .returned (Ud t)∧Below w.heap.size w w':=by
 obtain ⟨a,cap,rfl,hm,HB0,HC⟩:=Bf hv 42;clear hv HC;unfold Ud kV kN cu;generalize t.name=n at *;generalize t.args.length=k at *;have cN:=Tryz.num n;unfold A8 at cN;obtain ⟨W2,hW2⟩:∃ W,(w.alloc (.cells #[.string ⟨n.toArray⟩,.slice a k cap] 42)).alloc (.cells #[.int .i64 0,.int .i64 0,.int .i64 0,.string ⟨#[]⟩] 156)=W:=⟨_,rfl⟩
 have hs2:W2.heap.size=w.heap.size+2:=by rw [← hW2];simp
 have hB2:Hid (Below w.heap.size w W2):=hid (by rw [← hW2];exact HB0.out.alloc HB0.out.size _);have y2:W2.heap[w.heap.size+1]?=some (.cells #[.int .i64 0,.int .i64 0,.int .i64 0,.string ⟨#[]⟩] 156 (0,0)):=by rw [← hW2];have:=heap_alloc_new (w.alloc (.cells #[.string ⟨n.toArray⟩,.slice a k cap] 42)) (.cells #[.int .i64 0,.int .i64 0,.int .i64 0,.string ⟨#[]⟩] 156);rwa [World.size_alloc] at this
 have y1:W2.heap[w.heap.size]?=some (.cells #[.string ⟨n.toArray⟩,.slice a k cap] 42 (0,0)):=by rw [← hW2];exact (heap_alloc_old (w.alloc _) _ (by simp)).trans (heap_alloc_new w _)
 obtain ⟨x0,x1,_,_⟩:=aC y1;obtain ⟨⟨z0,z1,z2,z3⟩,f0,f1,f2,f3⟩:=fZ y2;have fin:∀ (W:World) (p q r:Int) (s:Str),Below w.heap.size w W→Below w.heap.size w (ag6 W (w.heap.size+1) (.int .i64 p) (.int .i64 q) (.int .i64 r) (.string ⟨s.toArray⟩)):=fun W p q r s h=>yV h (Nat.le_succ _) _ _ _ _
 replace fin:=hid fin
 have cV:=hid (Tryz.va n W2);have cK:=hid (fun (W:World) (h:Below W2.heap.size W2 W)=>And.intro (aC ((h.block _ (by omega)).trans y1)) (fZ ((h.block _ (by omega)).trans y2)));have hB3:=hid (fun (W:World) (h:Below W2.heap.size W2 W)=>hB2.out.trans (h.mono (by omega)))
 replace y1:=hid y1
 replace y2:=hid y2
 generalize bM n=b1 at cN ⊢;generalize iH n=b2 at cV ⊢
 go_enter Tryz.func95,Tryz.ntmps95
 by_cases h0:k=0
 ·subst h0;cases b1 with
  | true=>
    go_wp2_with (go_at_call 160;refine (cN _).mono ?_;rintro e w1 ⟨rfl,rfl⟩)
    refine bodyPost_ret (v := .agg #[.int .i64 (0),.int .i64 (oQ n),.int .i64 (0),.string ⟨([]).toArray⟩]) (by simp [results,Tryz.results95,go_sem,z0,z1,z2,z3]) rfl ⟨rfl,?_⟩;exact fin.out w1 _ _ _ _ hB2.out
  | false=>
    cases b2
    all_goals
     go_wp2_with (first
      | (go_at_call 160;refine (cN _).mono ?_;rintro e w1 ⟨rfl,rfl⟩)
      | (go_at_call 161;refine cV.out.mono ?_;rintro e w1 ⟨rfl,hb1⟩;obtain ⟨⟨g0,g1,_,_⟩,⟨h0,h1,h2,h3⟩,k0,k1,k2,k3⟩:=cK.out w1 hb1;replace hb1:=hid hb1))
    ·refine bodyPost_ret (v := .agg #[.int .i64 (1),.int .i64 (0),.int .i64 (0),.string ⟨(n).toArray⟩]) (by simp [results,Tryz.results95,go_sem,h0,h1,h2,h3]) rfl ⟨rfl,?_⟩;exact fin.out w1 _ _ _ _ (hB3.out w1 hb1.out)
    ·refine bodyPost_ret (v := .agg #[.int .i64 (2),.int .i64 (0),.int .i64 (0),.string ⟨(n).toArray⟩]) (by simp [results,Tryz.results95,go_sem,h0,h1,h2,h3]) rfl ⟨rfl,?_⟩;exact fin.out w1 _ _ _ _ (hB3.out w1 hb1.out)
 ·rw [if_neg h0]
  go_wp2_with fail
  refine bodyPost_ret (v := .agg #[.int .i64 (3),.int .i64 (0),.int .i64 (k),.string ⟨(n).toArray⟩]) (by simp [results,Tryz.results95,go_sem,z0,z1,z2,z3]) rfl ⟨rfl,?_⟩;exact fin.out W2 _ _ _ _ hB2.out
theorem zI (t:Tm):(cu t=0∧t.args.length=0)∨cu t≠0:=by
 unfold cu;by_cases h:t.args.length=0
 ·rw [if_pos h];by_cases h1:bM t.name=true
  ·rw [if_pos h1];exact .inl ⟨rfl,h⟩
  ·rw [if_neg h1];right;split<;>decide
 ·rw [if_neg h];right;decide
theorem Qc {w:World} {b:Nat} {a0 a1 a2 a3:Value} {T:TypeId} (h:w.heap[b]?=some (.cells #[a0,a1,a2,a3] T (0,0))) (x y z u:Value):((((w.setCell ⟨b,0,none⟩ x).setCell ⟨b,1,none⟩ y).setCell ⟨b,2,none⟩ z).setCell ⟨b,3,none⟩ u).heap[b]?=some (.cells #[x,y,z,u] T (0,0)):=bC 3 _ (bC 2 _ (bC 1 _ (bC 0 _ h)))
theorem JZ (w:World) (b:Nat) (x y z u:Value) {k:Nat} (h:k≠b):((((w.setCell ⟨b,0,none⟩ x).setCell ⟨b,1,none⟩ y).setCell ⟨b,2,none⟩ z).setCell ⟨b,3,none⟩ u).heap[k]?=w.heap[k]?:=(aA _ ⟨b,3,none⟩ _ h).trans ((aA _ ⟨b,2,none⟩ _ h).trans ((aA _ ⟨b,1,none⟩ _ h).trans (aA _ ⟨b,0,none⟩ _ h)))
theorem akl {P:Program} {c:Code} {Q:Exit→Act→World→Prop} {a:Act} {w:World} (R:Value→Value→World→Prop) (F:Value→Value→Value→Value→Value→Value→Act)
  (h:∀ Q',(∀ u5 u6 u7 u8 u9 u10 W,R u5 u6 W→Q' .normal (F u5 u6 u7 u8 u9 u10) W)→c.wp P Q' a w) (hq:∀ u5 u6 u7 u8 u9 u10 W,R u5 u6 W→Q .normal (F u5 u6 u7 u8 u9 u10) W):c.wp P Q a w:=h Q hq
theorem qw (a:Int):jc a a=0:=by unfold jc;rw [if_neg (by omega),if_neg (by omega)]
theorem QS (n m:Str) (l k:List Tm):jD (.mk n l) (.mk m k)=if cu (.mk n l)≠cu (.mk m k) then jc (cu (.mk n l)) (cu (.mk m k)) else if kV (.mk n l)≠kV (.mk m k) then jc (kV (.mk n l)) (kV (.mk m k)) else if l.length≠k.length then jc l.length k.length else if kN (.mk n l)≠kN (.mk m k) then fH (kN (.mk n l)) (kN (.mk m k)) else fQ l k:=by
 have hx:=zI (.mk n l);have hy:=zI (.mk m k);unfold kV kN;rw [jD];simp only [Tm.args,Tm.name] at hx hy ⊢;generalize cu (.mk n l)=cx at *;generalize cu (.mk m k)=cy at *;by_cases h1:cx=cy
 ·subst h1;have e0:jc cx cx=0:=qw cx;by_cases h0:cx=0
  ·subst h0;have e1:l=[]:=(by simpa using hx);have e2:k=[]:=(by simpa using hy);subst e1 e2;by_cases h2:oQ n=oQ m
   ·simp [h2,qw,fQ]
   ·simp [h2,qw]
  ·by_cases h3:l.length=k.length
   ·by_cases h4:n=m
    ·simp [h0,h3,h4,e0,uJ.2]
    ·have:fH n m≠0:=fun h=>h4 (uJ.1 h)
     simp [h0,h3,h4,e0,this]
   ·simp [h0,h3,e0]
 ·rw [if_pos (fun h=>h1 (QU.1 h)),if_pos h1]
set_option maxHeartbeats 4000000 in
set_option maxRecDepth 100000 in
theorem Tryz.aiM:∀ x:Tm,ZO Tryz.prog 47 x:=Tm.ind fun x ih y w v u hv hu=>by
 have d1:=fun W h1=>Tryz.aah x W v h1
 have d2:=fun W h1=>Tryz.aah y W u h1
 obtain ⟨n,l⟩:=x;obtain ⟨m,k⟩:=y;simp only [Tm.args] at ih;have ct:=QS n m l k;obtain ⟨a,cap,a2,cap2,rfl,rfl,hl,hk,hra,hrb,W0,hW0,hs0,hB0,hK⟩:=adS hv hu 42;have cL:=hid (fun (W:World) (hW:Below w.heap.size w W)=>Tryz.akb l k ih W _ _ (aO hW hra) (aO hW hrb));have c1:=hid (fun (W:World) (hW:Below w.heap.size w W)=>d1 W (aO hW hv));have c2:=hid (fun (W:World) (hW:Below w.heap.size w W)=>d2 W (aO hW hu));clear hra hrb hv hu ih d1 d2;obtain ⟨q0,q1,q2,q3⟩:=hK.out W0.drew (Below.refl _ _).drew;have hT:=hid (fun (U W W':World) (h:Hid (Below U.heap.size U W)) (h':Below W.heap.size W W')=>hid (h.out.trans (h'.mono h.out.size)));have hF:=hid (fun (W:World) (h:Hid (Below W0.heap.size W0 W))=>hid (hB0.out.trans (h.out.mono hB0.out.size)));have hA:=hid (fun (U W:World) (o:Obj) (h:Hid (Below U.heap.size U W))=>hid (h.out.alloc h.out.size o));have hQ:=hid (fun (W:World) (b:Nat) (x y z u:Value) (hb:W0.heap.size≤b) (h:Hid (Below W0.heap.size W0 W))=>(hid (yV h.out hb x y z u):Hid (Below W0.heap.size W0 ((((W.setCell ⟨b,0,none⟩ x).setCell ⟨b,1,none⟩ y).setCell ⟨b,2,none⟩ z).setCell ⟨b,3,none⟩ u))));have hI:=hid (fun (U:World)=>hid (Below.refl U.heap.size U));have hd0:Hid (Below W0.heap.size W0 W0.drew):=hid (Below.refl _ _).drew;have hZ1:Hid (∀ (V W:World),Below (V.alloc (.cells #[.int .i64 0,.int .i64 0,.int .i64 0,.string ⟨#[]⟩] 156)).heap.size (V.alloc (.cells #[.int .i64 0,.int .i64 0,.int .i64 0,.string ⟨#[]⟩] 156)) W→Hid (W.heap[V.heap.size]?=some (.cells #[.int .i64 0,.int .i64 0,.int .i64 0,.string ⟨#[]⟩] 156 (0,0)))):=hid fun V W h=>hid ((h.block _ (by simp)).trans (heap_alloc_new V _))
 have hZ2:Hid (∀ (V W:World),Below ((V.alloc (.cells #[.int .i64 0,.int .i64 0,.int .i64 0,.string ⟨#[]⟩] 156)).alloc (.cells #[.int .i64 0,.int .i64 0,.int .i64 0,.string ⟨#[]⟩] 156)).heap.size ((V.alloc (.cells #[.int .i64 0,.int .i64 0,.int .i64 0,.string ⟨#[]⟩] 156)).alloc (.cells #[.int .i64 0,.int .i64 0,.int .i64 0,.string ⟨#[]⟩] 156)) W→Hid (W.heap[V.heap.size]?=some (.cells #[.int .i64 0,.int .i64 0,.int .i64 0,.string ⟨#[]⟩] 156 (0,0)))):=hid fun V W h=>hid ((h.block _ (by simp;omega)).trans ((heap_alloc_old _ _ (by simp)).trans (heap_alloc_new V _)))
 have hZ3:Hid (∀ (V W:World),Below (V.alloc (.cells #[.int .i64 0,.int .i64 0,.int .i64 0,.string ⟨#[]⟩] 156)).drew.heap.size (V.alloc (.cells #[.int .i64 0,.int .i64 0,.int .i64 0,.string ⟨#[]⟩] 156)).drew W→Hid (W.heap[V.heap.size]?=some (.cells #[.int .i64 0,.int .i64 0,.int .i64 0,.string ⟨#[]⟩] 156 (0,0)))):=hid fun V W h=>hid ((h.block _ (show V.heap.size<(V.alloc _).heap.size by simp)).trans (heap_alloc_new V _))
 have hZ4:Hid (∀ (V W:World),Below ((V.alloc (.cells #[.int .i64 0,.int .i64 0,.int .i64 0,.string ⟨#[]⟩] 156)).alloc (.cells #[.int .i64 0,.int .i64 0,.int .i64 0,.string ⟨#[]⟩] 156)).drew.heap.size ((V.alloc (.cells #[.int .i64 0,.int .i64 0,.int .i64 0,.string ⟨#[]⟩] 156)).alloc (.cells #[.int .i64 0,.int .i64 0,.int .i64 0,.string ⟨#[]⟩] 156)).drew W→Hid (W.heap[V.heap.size]?=some (.cells #[.int .i64 0,.int .i64 0,.int .i64 0,.string ⟨#[]⟩] 156 (0,0)))):=hid fun V W h=>hid ((h.block _ (show V.heap.size<((V.alloc _).alloc _).heap.size by simp;omega)).trans ((heap_alloc_old _ _ (by simp)).trans (heap_alloc_new V _)))
 have hD:=hid (fun (U W:World) (h:Hid (Below U.heap.size U W))=>hid h.out.drew);have hZk:Hid (∀ (U W:World) (b:Nat),Hid (Below U.heap.size U W)→Hid (U.heap[b]?=some (.cells #[.int .i64 0,.int .i64 0,.int .i64 0,.string ⟨#[]⟩] 156 (0,0)))→Hid (W.heap[b]?=some (.cells #[.int .i64 0,.int .i64 0,.int .i64 0,.string ⟨#[]⟩] 156 (0,0)))):=hid fun U W b h h1=>hid ((h.out.block _ (Array.getElem?_eq_some_iff.1 h1.out).1).trans h1.out)
 clear hs0;unfold Ud at c1 c2;simp only [Tm.args] at c1 c2;generalize jD (.mk n l) (.mk m k)=r at ct ⊢;generalize kV (.mk n l)=vx at *;generalize kV (.mk m k)=vy at *;generalize kN (.mk n l)=nx at *;generalize kN (.mk m k)=ny at *;generalize cu (.mk n l)=cx at *;generalize cu (.mk m k)=cy at *
 replace ct:=hid ct
 go_enter Tryz.func47,Tryz.ntmps47
 go_wp2_with fail
 refine akl (fun u5 u6 W=>∃ b5 b6:Nat,u5 = .pointer (some ⟨b5,0,none⟩)∧u6 = .pointer (some ⟨b6,0,none⟩)∧Hid (W.heap[b5]?=some (.cells #[.int .i64 cx,.int .i64 vx,.int .i64 l.length,.string ⟨nx.toArray⟩] 156 (0,0)))∧Hid (W.heap[b6]?=some (.cells #[.int .i64 cy,.int .i64 vy,.int .i64 k.length,.string ⟨ny.toArray⟩] 156 (0,0)))∧Hid (Below W0.heap.size W0 W)) (fun u5 u6 u7 u8 u9 u10=>{ tmps:=(.agg #[.string ⟨n.toArray⟩,.slice a l.length cap] :: .agg #[.string ⟨m.toArray⟩,.slice a2 k.length cap2] :: .pointer (some ⟨w.heap.size,0,none⟩) :: .pointer (some ⟨w.heap.size+1,0,none⟩) :: .int .i64 0::u5::u6::u7::u8::u9::u10::List.replicate 47 undef).toArray,defers:=[] }) ?_ ?_
 ·clear cL ct;intro Q hE
  replace hE:=hid hE
  have hdh:∀ W:World,W.drew.heap=W.heap:=fun _=>rfl
  have hsz:=hid (fun (W:World) (p:Addr) (v:Value)=>(by simp [World.setCell]:(W.setCell p v).heap.size=W.heap.size));have hP1:=hid (fun (V:World) (o:Obj) (k:Nat) (h:k=V.heap.size)=>(by rw [h];exact heap_alloc_new V o:(V.alloc o).heap[k]?=some o));have hP2:=hid (fun (V:World) (o o':Obj) (k:Nat) (h:V.heap[k]?=some o') (hk:k<V.heap.size)=>(heap_alloc_old V o hk).trans h);have hP4:=hid (fun (V:World) (b:Nat) (x y z u:Value) (h:V.heap[b]?=some (.cells #[.int .i64 0,.int .i64 0,.int .i64 0,.string ⟨#[]⟩] 156 (0,0)))=>Qc h x y z u);have hP5:=hid (fun (V:World) (b k:Nat) (x y z u:Value) (o:Obj) (h:V.heap[k]?=some o) (hk:k≠b)=>(JZ V b x y z u hk).trans h)
  go_region_held3 (fun w'=>w'.cell? ⟨w.heap.size,0,none⟩=some (.string ⟨n.toArray⟩)∧w'.cell? ⟨w.heap.size,1,none⟩=some (.slice a l.length cap)∧w'.cell? ⟨w.heap.size+1,0,none⟩=some (.string ⟨m.toArray⟩)∧w'.cell? ⟨w.heap.size+1,1,none⟩=some (.slice a2 k.length cap2)) (first | (refine hK.out _ (Hid.out ?_);(repeat (first | with_reducible assumption | with_reducible exact hI.out _ | with_reducible refine hA.out _ _ _ ?_ | with_reducible refine hD.out _ _ ?_ | with_reducible refine hQ.out _ _ _ _ _ _ (by first | exact Nat.le_refl _ | exact Nat.le_succ _ | exact hd1.out.size | exact Nat.le_succ_of_le hd1.out.size | fail) ?_));done) | fail) (first
   | (go_at_call 95;with_reducible refine (c1.out _ (by first | with_reducible exact (hF.out _ hd0).out | with_reducible exact (hF.out _ (hD.out _ _ (hA.out _ _ _ (hI.out _)))).out | exact (hF.out _ (hD.out _ _ (hA.out _ _ _ (hA.out _ _ _ (hI.out _))))).out)).mono ?_;rintro e w1 ⟨rfl,hb1⟩;have hd1:Hid (Below W0.heap.size W0 w1):=(by first | with_reducible exact hT.out _ _ _ hd0 hb1 | with_reducible exact hT.out _ _ _ (hD.out _ _ (hA.out _ _ _ (hI.out _))) hb1 | exact hT.out _ _ _ (hD.out _ _ (hA.out _ _ _ (hA.out _ _ _ (hI.out _)))) hb1);obtain ⟨p0,p1,p2,p3⟩:=hK.out w1 hd1.out;(try with_reducible have z1:=hZ3.out _ _ hb1);(try with_reducible have z2:=hZ4.out _ _ hb1);(try simp only [World.size_alloc,hdh] at z1);(try simp only [hdh] at z2);(try have x1:=Nat.ne_of_lt (Array.getElem?_eq_some_iff.1 z1.out).1);(try have x2:=Nat.ne_of_gt (Array.getElem?_eq_some_iff.1 z1.out).1);replace hb1:=hid hb1)
   | (go_at_call 95;with_reducible refine (c2.out _ (by first | with_reducible exact (hF.out _ hd1).out | with_reducible exact (hF.out _ (hA.out _ _ _ hd1)).out | exact (hF.out _ (hA.out _ _ _ (hA.out _ _ _ hd1))).out)).mono ?_;rintro e w2 ⟨rfl,hb2⟩;have hd2:Hid (Below W0.heap.size W0 w2):=(by first | with_reducible exact hT.out _ _ _ hd1 hb2 | with_reducible exact hT.out _ _ _ (hA.out _ _ _ hd1) hb2 | exact hT.out _ _ _ (hA.out _ _ _ (hA.out _ _ _ hd1)) hb2);obtain ⟨r0,r1,r2,r3⟩:=hK.out w2 hd2.out;have hd12:Hid (Below w1.heap.size w1 w2):=(by first | with_reducible exact hid hb2 | with_reducible exact hT.out _ _ _ (hA.out _ _ _ (hI.out _)) hb2 | exact hT.out _ _ _ (hA.out _ _ _ (hA.out _ _ _ (hI.out _))) hb2);(try with_reducible have z3:=hZ1.out _ _ hb2);(try with_reducible have z4:=hZ2.out _ _ hb2);(try simp only [World.size_alloc] at z3);(try replace z1:=hZk.out _ _ _ hd12 z1);(try replace z2:=hZk.out _ _ _ hd12 z2);(try (have uz1:=fZ z1.out;obtain ⟨⟨s0,s1,s2,s3⟩,s4,s5,s6,s7⟩:=uz1));(try (have uz2:=fZ z2.out;obtain ⟨⟨t0,t1,t2,t3⟩,t4,t5,t6,t7⟩:=uz2));(try (have uz3:=fZ z3.out;obtain ⟨⟨o0,o1,o2,o3⟩,o4,o5,o6,o7⟩:=uz3));(try (have uz4:=fZ z4.out;obtain ⟨⟨m0,m1,m2,m3⟩,m4,m5,m6,m7⟩:=uz4));(try have y1:=(Array.getElem?_eq_some_iff.1 z1.out).1);(try have y2:=(Array.getElem?_eq_some_iff.1 z2.out).1);(try have y3:=(Array.getElem?_eq_some_iff.1 z3.out).1);(try have y4:=(Array.getElem?_eq_some_iff.1 z4.out).1);replace hb2:=hid hb2))
  all_goals
   refine hE.out _ _ _ _ _ _ _ ⟨_,_,rfl,rfl,hid ?_,hid ?_,?_⟩
   (repeat (first
     | with_reducible exact hP1.out _ _ _ (by (try simp only [World.size_alloc,hsz.out]))
     | with_reducible exact z1.out | with_reducible exact z2.out | with_reducible exact z3.out | with_reducible exact z4.out
     | with_reducible refine hP4.out _ _ _ _ _ _ ?_
     | with_reducible refine hP2.out _ _ _ _ ?_ (by (try simp only [World.size_alloc,hsz.out]);omega)
     | with_reducible refine hP5.out _ _ _ _ _ _ _ _ ?_ (by omega)))
   (repeat (first | with_reducible assumption | with_reducible exact hI.out _ | with_reducible refine hA.out _ _ _ ?_ | with_reducible refine hD.out _ _ ?_ | with_reducible refine hQ.out _ _ _ _ _ _ (by first | exact Nat.le_refl _ | exact Nat.le_succ _ | exact hd1.out.size | exact Nat.le_succ_of_le hd1.out.size | fail) ?_))
 ·rintro u5 u6 u7 u8 u9 u10 W ⟨b5,b6,rfl,rfl,y5,y6,hB⟩;simp only [List.replicate];obtain ⟨q0,q1,q2,q3⟩:=hK.out W hB.out;obtain ⟨⟨s0,s1,s2,s3⟩,_,_,_,_⟩:=fZ y5.out;obtain ⟨⟨t0,t1,t2,t3⟩,_,_,_,_⟩:=fZ y6.out;have cO:=hid (Tryz.signs);have cS:=hid (Tryz.aiK nx ny);clear c1 c2 hT hA hD hQ hI hd0 hZ1 hZ2 hZ3 hZ4 hZk hK;have fin:∀ V,Below W.heap.size W V→Below w.heap.size w V:=fun V h=>(hB0.out.trans (hB.out.mono hB0.out.size)).trans (h.mono (Nat.le_trans hB0.out.size hB.out.size))
  replace fin:=hid fin
  have cL:=hid (fun V (h:Below W.heap.size W V)=>cL.out V (fin.out V h));by_cases h1:cx=cy
  case neg=>
   have hr:=hid (ct.out.trans (if_pos h1));have h1b:(cx==cy)=false:=(by simpa using h1);have h1c:(cx != cy)=true:=by simpa using h1
   replace h1:=hid h1
   go_wp2_with (go_at_call 96;refine ((cO.out _ _).2 _).mono ?_;rintro e w1 ⟨rfl,rfl⟩)
   go_ret
   exact ⟨by rw [hr.out];rfl,(fin.out _ (Below.refl _ _))⟩
  have hr1:=hid (ct.out.trans (if_neg (fun h=>h h1)));have h1b:(cx==cy)=true:=by simpa using h1
  have h1c:(cx != cy)=false:=by simpa using h1
  replace h1:=hid h1
  by_cases h2:vx=vy
  case neg=>
   have hr:=hid (hr1.out.trans (if_pos h2));have h2b:(vx==vy)=false:=(by simpa using h2);have h2c:(vx != vy)=true:=by simpa using h2
   replace h2:=hid h2
   go_wp2_with (go_at_call 96;refine ((cO.out _ _).2 _).mono ?_;rintro e w1 ⟨rfl,rfl⟩)
   go_ret
   exact ⟨by rw [hr.out];rfl,(fin.out _ (Below.refl _ _))⟩
  have hr2:=hid (hr1.out.trans (if_neg (fun h=>h h2)));have h2b:(vx==vy)=true:=by simpa using h2
  have h2c:(vx != vy)=false:=by simpa using h2
  replace h2:=hid h2
  by_cases h3:l.length=k.length
  case neg=>
   have hr:=hid (hr2.out.trans (if_pos h3));have h3b:((l.length:Int)==(k.length:Int))=false:=(by simpa using (fun h:(l.length:Int)=k.length=>h3 (Int.ofNat_inj.1 h)));have h3c:((l.length:Int) != (k.length:Int))=true:=by simpa using (fun h:(l.length:Int)=k.length=>h3 (Int.ofNat_inj.1 h))
   replace h3:=hid h3
   go_wp2_with (go_at_call 96;refine ((cO.out _ _).2 _).mono ?_;rintro e w1 ⟨rfl,rfl⟩)
   go_ret
   exact ⟨by rw [hr.out];rfl,(fin.out _ (Below.refl _ _))⟩
  have hr3:=hid (hr2.out.trans (if_neg (fun h=>h h3)));have h3b:((l.length:Int)==(k.length:Int))=true:=by rw [h3];simp
  have h3c:((l.length:Int) != (k.length:Int))=false:=by rw [h3];simp
  replace h3:=hid h3
  by_cases h4:nx=ny
  ·have hr:=hid (hr3.out.trans (if_neg (fun h=>h h4)));have h4b:(nx==ny)=true:=by simpa using h4
   replace h4:=hid h4
   go_wp2_with (go_at_call 48;refine (cL.out _ (Below.refl _ _)).mono ?_;rintro e w1 ⟨rfl,hb1⟩)
   go_ret
   exact ⟨by rw [hr.out];rfl,fin.out _ hb1⟩
  ·have hr:=hid (hr3.out.trans (if_pos h4));have h4b:(nx==ny)=false:=by simpa using h4
   replace h4:=hid h4
   go_wp2_with (go_at_call 97;refine (cS.out _).mono ?_;rintro e w1 ⟨rfl,rfl⟩)
   go_ret
   exact ⟨by rw [hr.out];rfl,(fin.out _ (Below.refl _ _))⟩
end Go.Proofs
namespace Go.Proofs
open Go.RowKit Go.Shelf
def Tryz.lays156_ren:Go.Shelf.Ren:=⟨fun | 156=>94 | 165=>159 | 166=>43 | 169=>46 | 240=>92 | 241=>235 | 276=>157 | 277=>310 | n=>n,fun | 31=>152 | 9=>9 | 3=>3 | 4=>4 | 0=>0 | 20=>20 | 72=>98 | 76=>101 | 70=>95 | 37=>96 | 75=>100 | 127=>154 | 164=>217 | 5=>5 | 80=>72 | n=>n,fun | n=>n⟩
theorem Tryz.lays156:Go.Proofs.Lays.n156 Tryz.prog Tryz.lays156_ren:={
 mixed:=by kernel_rfl
 f156:=Tryz.func94.trans (congrArg some (by kernel_rfl))
 f165:=Tryz.func159.trans (congrArg some (by kernel_rfl))
 f166:=Tryz.func43.trans (congrArg some (by kernel_rfl))
 f169:=Tryz.func46.trans (congrArg some (by kernel_rfl))
 f240:=Tryz.func92.trans (congrArg some (by kernel_rfl))
 f241:=Tryz.func235.trans (congrArg some (by kernel_rfl))
 f276:=Tryz.func157.trans (congrArg some (by kernel_rfl))
 f277:=Tryz.func310.trans (congrArg some (by kernel_rfl))
 t0:=Tryz.underlying0
 a0:=Tryz.isAgg0
 z0:=Tryz.sizeOf0
 v0:=Tryz.zeroValue0
 t3:=Tryz.underlying3
 a3:=Tryz.isAgg3
 z3:=Tryz.sizeOf3
 v3:=Tryz.zeroValue3
 t4:=Tryz.underlying4
 a4:=Tryz.isAgg4
 z4:=Tryz.sizeOf4
 v4:=Tryz.zeroValue4
 t9:=Tryz.underlying9
 a9:=Tryz.isAgg9
 z9:=Tryz.sizeOf9
 v9:=Tryz.zeroValue9
 t20:=Tryz.underlying20
 a20:=Tryz.isAgg20
 z20:=Tryz.sizeOf20
 v20:=Tryz.zeroValue20
 t31:=Tryz.underlying152
 a31:=Tryz.isAgg152
 z31:=Tryz.sizeOf152
 v31:=Tryz.zeroValue152
 t37:=Tryz.underlying96
 a37:=Tryz.isAgg96
 z37:=Tryz.sizeOf96
 v37:=Tryz.zeroValue96
 t70:=Tryz.underlying95
 a70:=Tryz.isAgg95
 z70:=Tryz.sizeOf95
 v70:=Tryz.zeroValue95
 t72:=Tryz.underlying98
 a72:=Tryz.isAgg98
 z72:=Tryz.sizeOf98
 v72:=Tryz.zeroValue98
 t75:=Tryz.underlying100
 a75:=Tryz.isAgg100
 z75:=Tryz.sizeOf100
 v75:=Tryz.zeroValue100
 t76:=Tryz.underlying101
 a76:=Tryz.isAgg101
 z76:=Tryz.sizeOf101
 v76:=Tryz.zeroValue101
 t127:=Tryz.underlying154
 a127:=Tryz.isAgg154
 z127:=Tryz.sizeOf154
 v127:=Tryz.zeroValue154
 t164:=Tryz.underlying217
 a164:=Tryz.isAgg217
 z164:=Tryz.sizeOf217
 v164:=Tryz.zeroValue217 }
theorem Tryz.builderX156:Builder.Extra Tryz.prog Tryz.lays156_ren where
 sizeBuilder:=by kernel_rfl
 liesBuilder:=by kernel_rfl
 t5:=Tryz.underlying5
 a5:=Tryz.isAgg5
 z5:=Tryz.sizeOf5
 v5:=Tryz.zeroValue5
 infoByte:=by kernel_rfl
 cellsByte:=by kernel_rfl
 sizeByte:=by kernel_rfl
 neB5:=by decide
abbrev Tryz.IsB (B b:Nat) (l:List UInt8) (w:World):Prop:=Lib.IsBuilderF 98 5 B b (Lib.byteCells l) w
abbrev Tryz.Kept (b:Nat) (w w':World):Prop:=Lib.OthersKept 5 (some b) w w'
theorem Tryz.aiI (B b:Nat) (bs:List Value) (w:World) (h:Lib.IsBuilderF 98 5 B b bs w) :
  Calls Tryz.prog 92 #[.pointer (some ⟨b,0,none⟩)] w fun e w'=>e = .returned (.tuple #[])∧(Lib.BuilderAtF 98 5 B b (.pointer (some ⟨b,0,none⟩)) bs w'∧Below B w w'∧Tryz.Kept b w w'):=
 Any.Builder_copyCheck_k { Tryz.lays156 with } Tryz.builderX156.toX72 B b bs w h
theorem Tryz.agY (B b:Nat) (l s:List UInt8) (w:World) (h:Tryz.IsB B b l w) (hlen:l.length+s.length≤140737488355328) (hBw:B≤w.heap.size) :
  Calls Tryz.prog 43 #[.pointer (some ⟨b,0,none⟩),.string ⟨s.toArray⟩] w fun e w'=>e = .returned (.tuple #[.int .i64 s.length,.nilIface])∧(Tryz.IsB B b (l++s) w'∧Below B w w'∧Tryz.Kept b w w'):=by
 refine (Any.Builder_WriteString_k { Tryz.lays156 with } Tryz.builderX156 B b (Lib.byteCells l) ⟨s.toArray⟩ w h (by simpa [Lib.byteCells_length,ByteArray.size] using hlen) hBw).mono ?_;rintro e w' ⟨rfl,h1,h2⟩;refine ⟨by simp [ByteArray.size],.inr ?_,h2⟩;rw [Lib.strCells_eq,← Lib.byteCells_append] at h1;exact h1
set_option maxHeartbeats 2000000 in
set_option maxRecDepth 100000 in
theorem Tryz.Wx (B b:Nat) (l:List UInt8) (c:UInt8) (w:World) (h:Tryz.IsB B b l w) (hlen:l.length+1≤140737488355328) (hBw:B≤w.heap.size) :
  Calls Tryz.prog 158 #[.pointer (some ⟨b,0,none⟩),.int .u8 c.toNat] w fun e w'=>e = .returned .nilIface∧(Tryz.IsB B b (l++[c]) w'∧Below B w w'∧Tryz.Kept b w w'):=by
 obtain ⟨i0,hi,hz0,hz1,hz2⟩:=info_parts Tryz.builderX156.infoByte;have cC:=Tryz.aiI B b (Lib.byteCells l) w h;have hlb:(Lib.byteCells l).length+1≤140737488355328:=by simpa [Lib.byteCells_length] using hlen
 have hcells:Lib.byteCells (l++[c])=Lib.byteCells l++[.int .u8 c.toNat]:=by rw [Lib.byteCells_append];rfl
 generalize hbs:Lib.byteCells l=bs at cC hlb hcells;clear h hlen hbs
 go_enter Tryz.func158,Tryz.ntmps158
 go_wp2_with (go_at_call 92;refine cC.mono ?_)
 rintro e w1 ⟨rfl,h1,hb1,hk1⟩;obtain ⟨hB,v,hbk,hown,hne⟩:=h1;have c0:w1.cell? ⟨b,0,none⟩=some (.pointer (some ⟨b,0,none⟩)):=by rw [Lib.cell_of_heap hbk];rfl
 have c1:w1.cell? ⟨b,1,none⟩=some v:=by rw [Lib.cell_of_heap hbk];rfl
 go_wp2_with (at_builtin;refine wpList_append_ownF _ rfl _ _ 96 rfl B 5 i0 (.int .u8 0) 1 1 Tryz.underlying96 hi hz0 hz1 hz2 rfl (by decide) _ _ _ rfl (hown.alloc _) ⟨w1.heap.size,0,none⟩ 1 1 [.int .u8 c.toNat] rfl rfl ?c1 ?c2 ?c3 ?c4 ?c5 ?_)
 case c1=>
  intro j u hj
  match j,hj with
  | 0,hj=>simp at hj;subst hj;simp [Addr.add]
 case c2=>intro u hu;simp at hu;subst hu;rfl
 case c3=>unfold maxLen;omega
 case c4=>omega
 case c5=>have:=hb1.size;simp;omega
 intro v' w2 hown' hgrow _;have hlt:b<w1.heap.size:=(Array.getElem?_eq_some_iff.1 hbk).1;have hb2:w2.heap[b]?=some (.cells #[.pointer (some ⟨b,0,none⟩),v] 98 (0,0)):=by
  rw [hgrow.block b (by simp;omega) (fun e=>hne e.symm),Lib.alloc_old w1 _ b hlt];exact hbk
 have d0:w2.cell? ⟨b,0,none⟩=some (.pointer (some ⟨b,0,none⟩)):=by rw [Lib.cell_of_heap hb2];rfl
 have d1:w2.cell? ⟨b,1,none⟩=some v:=by rw [Lib.cell_of_heap hb2];rfl
 have f1:w2.frozen? ⟨b,1,none⟩=false:=Lib.frozen_of_heap hb2 1;obtain ⟨g,cap,rfl⟩:∃ g cap,v' = .slice (some ⟨g,0,none⟩) (bs.length+1) cap:=by
  rcases hown'.2 with ⟨_,h0⟩ | ⟨g,cap,cur,fz,hv,_⟩
  ·omega
  ·exact ⟨g,cap,hv⟩
 go_wp2
 go_ret
 refine ⟨rfl,.inr ?_,?_,((hk1.alloc _).grown hgrow (Lib.ownsRowF_kind (hown.alloc _))).setCell ⟨b,1,none⟩ rfl _⟩
 ·rw [hcells];exact Lib.BuilderAtF.put (T:=98) (e:=5) hB hb2 (bs':=bs++[.int .u8 c.toNat]) (by simpa using hown') (by decide)
 ·exact ((hb1.alloc (by have:=hb1.size;omega) _).grown hgrow (by have:=hb1.size;simp;omega) (fun k hk=>(hown.lt k hk).1)).setCell (p:=⟨b,1,none⟩) hB _
theorem Tryz.ZU (B b:Nat) (l:List UInt8) (w:World) (h:Tryz.IsB B b l w) (hBw:B≤w.heap.size) :
  Calls Tryz.prog 46 #[.pointer (some ⟨b,0,none⟩)] w fun e w'=>e = .returned (.string ⟨l.toArray⟩)∧Below B w w':=by
 refine (Any.Builder_String_any_k { Tryz.lays156 with } Tryz.builderX156 B b l w h hBw).mono ?_;rintro e w' ⟨rfl,h1⟩;exact ⟨rfl,h1.2.1⟩
theorem Tryz.ahk (bk o c:Nat) (xs:List (List UInt8)) (sep:List UInt8) (w:World) (hc:∀ (j:Nat) x,xs[j]?=some x→w.cell? ⟨bk,o+j,none⟩=some (.string ⟨x.toArray⟩))
  (hbk:bk<w.heap.size) (hN:xs.length≤140737488355328) (hcap:xs.length≤c) (hlen:(Lib.join xs sep).length≤140737488355328) :
  Calls Tryz.prog 94 #[.slice (some ⟨bk,o,none⟩) xs.length c,.string ⟨sep.toArray⟩] w fun e w'=>e = .returned (.string ⟨(Lib.join xs sep).toArray⟩)∧Below w.heap.size w w':=by
 have e1:(xs.map fun x:List UInt8=>(⟨x.toArray⟩:ByteArray)).map (fun s=>s.data.toList)=xs:=by
  rw [List.map_map];exact List.map_id'' (fun _=>rfl) xs
 have h:=Any.strings_Join Tryz.lays156 Tryz.builderX156 bk o c (xs.map fun x=>⟨x.toArray⟩) ⟨sep.toArray⟩ w (fun j x hx=>by
  rw [List.getElem?_map,Option.map_eq_some_iff] at hx;obtain ⟨y,hy,rfl⟩:=hx
  exact hc j y hy) hbk (by simpa using hN) (by simpa using hcap) (by rw [e1];exact hlen)
 rw [e1,List.length_map] at h;exact h
theorem Tryz.aeP (sep:List UInt8) (w:World):Calls Tryz.prog 94 #[.slice none 0 0,.string ⟨sep.toArray⟩] w fun e w'=>e = .returned (.string ⟨#[]⟩)∧Below w.heap.size w w':=
 (Any.strings_Join_none Tryz.lays156 Tryz.builderX156 none 0 ⟨sep.toArray⟩ w).mono fun e w' ⟨he,hw⟩=>⟨he,hw ▸ Below.refl _ _⟩
end Go.Proofs
namespace Go.Proofs
open Go.RowKit Go.Shelf Go.Proofs.YtpmapognbdiahaaGreatDoor Go.Own
theorem kC {b:Nat} {w w':World} (h:Tryz.Kept b w w') {k:Nat} {c:Array Value} {t:TypeId} {fz:Nat×Nat} (hk:w.heap[k]?=some (.cells c t fz)) (hb:k≠b) (ht:t≠5):w'.heap[k]?=some (.cells c t fz):=
 h k _ hk (fun e=>hb (Option.some.inj e)) (fun c' fz' e=>ht (by cases e;rfl))
set_option maxHeartbeats 2000000 in
set_option maxRecDepth 100000 in
theorem Tryz.writeT:∀ (N:Nat) (t:Tm),SizeOf.sizeOf t<N→∀ (B b:Nat) (s:Str) (w:World) (v:Value),Tryz.IsB B b s w→B≤w.heap.size→Abs.RdD (fun k=>k<B) w v (enT t)→s.length+(aH t).length≤140737488355328 →
  Calls Tryz.prog 93 #[.pointer (some ⟨b,0,none⟩),v] w fun e w'=>e = .returned (.tuple #[])∧(Tryz.IsB B b (s++aH t) w'∧Below B w w'∧Tryz.Kept b w w')
 | 0,_,h,_,_,_,_,_,_,_,_,_=>by omega
 | N+1,.mk n l,hN,B,b,s,w,v,hI,hB,hrd,hlen=>by
   obtain ⟨u,rfl,hu⟩:=rdt hrd;obtain ⟨a,cap,rfl,hl⟩:=rdl hu;have hb:b<w.heap.size:=by
    rcases hI with h | h
    ·obtain ⟨_,v,hbk,_⟩:=h;exact (Array.getElem?_eq_some_iff.1 hbk).1
    ·obtain ⟨_,v,hbk,_⟩:=h;exact (Array.getElem?_eq_some_iff.1 hbk).1
   rw [fE,List.length_append] at hlen
   go_enter Tryz.func93,Tryz.ntmps93
   go_wp2_with fail
   obtain ⟨W0,hW0⟩:∃ W0,w.alloc (.cells #[.string ⟨n.toArray⟩,.slice a l.length cap] 42)=W0:=⟨_,rfl⟩
   have hB0:Below B w W0:=(by rw [← hW0];exact (Below.refl _ w).alloc hB _);have hK0:Tryz.Kept b w W0:=(by rw [← hW0];exact (Lib.OthersKept.refl _ _ w).alloc _);have hs0:W0.heap.size=w.heap.size+1:=(by rw [← hW0];simp);have hI0:Tryz.IsB B b s W0:=(by rw [← hW0];exact Lib.IsBuilderF.alloc hI _);have x0:W0.heap[w.heap.size]?=some (.cells #[.string ⟨n.toArray⟩,.slice a l.length cap] 42 (0,0)):=(by rw [← hW0];exact heap_alloc_new w _);rw [hW0];clear hW0;have p0:W0.cell? ⟨w.heap.size,0,none⟩=some (.string ⟨n.toArray⟩):=(by simp [World.cell?,x0]);have cW:=Tryz.agY B b s n W0 hI0 (by omega) (by omega);by_cases hl0:l=[]
   ·subst hl0
    go_wp2_with (go_at_call 43;refine cW.mono ?_;rintro e w1 ⟨rfl,hI1,hB1,hK1⟩;have x1:=kC hK1 x0 (by omega) (by decide);have p1:w1.cell? ⟨w.heap.size,1,none⟩=some (.slice a ([]:List Tm).length cap):=by simp [World.cell?,x1])
    refine bodyPost_ret (results_none rfl _ _ _) rfl ?_;rw [fE,List.map_nil,parens,List.append_nil];exact ⟨rfl,hI1,hB0.trans hB1,hK0.trans hK1⟩
   ·obtain ⟨bk,o,rfl,hbk,hlc,hcm,hcells⟩:=hl.resolve_left hl0;have hpos:0<l.length:=List.length_pos_iff.2 hl0;have hlm:l.length≤9223372036854775807:=(by simp only [maxLen] at hcm;omega);have hne:((l.length:Int)==0)=false:=(by simp;omega);have hpar:parens (l.map aH)=[40]++Lib.join (l.map aH) [44]++[41]:=by
     cases l with
     | nil=>exact absurd rfl hl0
     | cons x r=>rfl
    rw [hpar] at hlen;simp only [List.length_append,List.length_cons,List.length_nil] at hlen;have HC:=Any.hidJ hcells;have Hl:=Any.hidJ hl;have Hrd:=Any.hidJ hrd;have Hu:=Any.hidJ hu;clear hcells hl hrd hu hl0 hpar
    go_wp2_with (first
     | (go_at_call 43;refine cW.mono ?_;rintro e w1 ⟨rfl,hI1,hB1,hK1⟩;have x1:=kC hK1 x0 (by omega) (by decide);have p1:w1.cell? ⟨w.heap.size,1,none⟩=some (.slice (some ⟨bk,o,none⟩) l.length cap):=by simp [World.cell?,x1])
     | (go_at_call 158;refine (Tryz.Wx B b (s++n) 40 w1 hI1 (by simp;omega) (by have:=hB1.size;omega)).mono ?_;rintro e w2 ⟨rfl,hI2,hB2,hK2⟩;have x2:=kC hK2 x1 (by omega) (by decide);have p2:w2.cell? ⟨w.heap.size,1,none⟩=some (.slice (some ⟨bk,o,none⟩) l.length cap):=by simp [World.cell?,x2]))
    have hB02:=Any.hidJ (hB0.trans (hB1.trans hB2));have hK02:=Any.hidJ (hK0.trans (hK1.trans hK2));have hI02:=Any.hidJ hI2;clear hB0 hB1 hB2 hK0 hK1 hK2 hI2 hI1 hI0 cW x0 x1 x2 p0 p1 p2;have ih:=Any.hidJ (Tryz.writeT N)
    go_loopw [19] (fun i wr=>∃ k:Nat,k≤l.length∧i = .int .i64 k∧Hid (Tryz.IsB B b (s++n++[40]++dM l k) wr)∧Hid (Below B w wr)∧Hid (Tryz.Kept b w wr)) (fun i _=>l.length-(intOf i).toNat)
    case atStart=>exact ⟨0,Nat.zero_le _,rfl,Any.hidJ (by rw [dM,nR,List.take_zero,List.map_nil,Lib.join_nil,List.append_nil];exact hI02.out),hB02,hK02⟩
    case round=>
     obtain ⟨k,hk,rfl,HI,HB,HK⟩:=hrel;by_cases hkl:k<l.length
     ·obtain ⟨u0,u1,c0,c1,hr⟩:=HC.out k hkl;obtain ⟨⟨x0,rfl⟩,a1,n1,m1,rfl⟩:=JH hr;have hbw:bk<w.heap.size:=(by omega);have d0:wr.cell? ⟨bk,o+k*2,none⟩=some (.string x0):=(HB.out.cell (p:=⟨bk,o+k*2,none⟩) hbk).trans c0;have d1:wr.cell? ⟨bk,o+k*2+1,none⟩=some (.slice a1 n1 m1):=(HB.out.cell (p:=⟨bk,o+(k*2+1),none⟩) hbk).trans c1;clear c0 c1;have hrh:=Any.hidJ hr;clear hr;have hzr:=HB.out.size;have hstep:=xg hkl;have hle:=wB l (k+1);have htk:SizeOf.sizeOf l[k]<N:=by
       have:=List.sizeOf_lt_of_mem (List.getElem_mem hkl);simp only [Tm.mk.sizeOf_spec] at hN;omega
      obtain ⟨W1,hW1⟩:∃ W1,wr.alloc (.cells #[.string x0,.slice a1 n1 m1] 42)=W1:=⟨_,rfl⟩
      have hsz1:W1.heap.size=wr.heap.size+1:=(by rw [← hW1];simp);have y1:W1.heap[wr.heap.size]?=some (.cells #[.string x0,.slice a1 n1 m1] 42 (0,0)):=(by rw [← hW1];exact heap_alloc_new wr _);have e0:W1.cell? ⟨wr.heap.size,0,none⟩=some (.string x0):=(by simp [World.cell?,y1]);have e1:W1.cell? ⟨wr.heap.size,1,none⟩=some (.slice a1 n1 m1):=(by simp [World.cell?,y1]);have HI1:Hid (Tryz.IsB B b (s++n++[40]++dM l k) W1):=Any.hidJ (by rw [← hW1];exact Lib.IsBuilderF.alloc HI.out _);have HB1:Hid (Below B w W1):=Any.hidJ (by rw [← hW1];exact HB.out.alloc (by omega) _);have HK1:Hid (Tryz.Kept b w W1):=Any.hidJ (by rw [← hW1];exact HK.out.alloc _);have Y1:=Any.hidJ y1;clear y1;by_cases hk0:k=0
      ·rw [if_pos hk0,List.append_nil] at hstep;have Hs:=Any.hidJ hstep;have hkt:¬ 0<k:=(by omega);clear hstep hk0
       go_wp2_with fail
       refine (ih.out l[k] htk B b _ W1 _ HI1.out (by have:=HB1.out.size;omega) (hrh.out.mono (fun q hq=>HB1.out.block q hq) (fun _ h=>h)) (by rw [Hs.out,List.length_append] at hle;simp only [List.length_append,List.length_cons,List.length_nil];omega)).mono ?_;rintro e w3 ⟨rfl,hI3,hB3,hK3⟩;have hz3:=hB3.size;have HI3:Hid (Tryz.IsB B b (s++n++[40]++dM l (k+1)) w3):=Any.hidJ (by rw [Hs.out,← List.append_assoc];exact hI3);have HB3:=Any.hidJ (HB1.out.trans hB3);have HK3:=Any.hidJ (HK1.out.trans hK3);clear hI3 hB3 hK3
       go_wp2_with fail
       go_roundw
       case rel=>exact ⟨k+1,by omega,by go_num,HI3,HB3,HK3⟩
       case measure=>simp [intOf];omega
      ·rw [if_neg hk0] at hstep;have Hs:=Any.hidJ hstep;have hkt:0<k:=(by omega);have hle2:s.length+(n.length+(1+((dM l k).length+1+(aH l[k]).length)+1))≤140737488355328:=by
        rw [Hs.out,List.length_append,List.length_append] at hle;simp only [List.length_cons,List.length_nil] at hle;omega
       clear hstep hk0 hle;have HL:=Any.hidJ hkl
       go_wp2_with (go_at_call 158;refine (Tryz.Wx B b _ 44 W1 HI1.out (by simp only [List.length_append,List.length_cons,List.length_nil];omega) (by have:=HB1.out.size;omega)).mono ?_;rintro e w2 ⟨rfl,hI2,hB2,hK2⟩;have z2:=hB2.size;have y2:=kC hK2 Y1.out (by omega) (by decide);have f0:w2.cell? ⟨wr.heap.size,0,none⟩=some (.string x0):=(by simp [World.cell?,y2]);have f1:w2.cell? ⟨wr.heap.size,1,none⟩=some (.slice a1 n1 m1):=(by simp [World.cell?,y2]);have HI2:=Any.hidJ hI2;have HB2:=Any.hidJ (HB1.out.trans hB2);have HK2:=Any.hidJ (HK1.out.trans hK2);clear hI2 hB2 hK2 y2)
       refine (ih.out l[k] htk B b _ w2 _ HI2.out (by have:=HB2.out.size;omega) (hrh.out.mono (fun q hq=>HB2.out.block q hq) (fun _ h=>h)) (by simp only [List.length_append,List.length_cons,List.length_nil];omega)).mono ?_;rintro e w3 ⟨rfl,hI3,hB3,hK3⟩;have hz3:=hB3.size;have HI3:Hid (Tryz.IsB B b (s++n++[40]++dM l (k+1)) w3):=Any.hidJ (by rw [Hs.out,← List.append_assoc,← List.append_assoc];exact hI3);have HB3:=Any.hidJ (HB2.out.trans hB3);have HK3:=Any.hidJ (HK2.out.trans hK3);clear hI3 hB3 hK3
       go_wp2_with fail
       go_roundw
       case rel=>exact ⟨k+1,by have:=HL.out;omega,by go_num,HI3,HB3,HK3⟩
       case measure=>have:=HL.out;simp [intOf];omega
     ·have hke:k=l.length:=(by omega);have hall:dM l k=Lib.join (l.map aH) [44]:=(by rw [hke,dM,nR,List.take_length]);have HI':Hid (Tryz.IsB B b (s++n++[40]++Lib.join (l.map aH) [44]) wr):=Any.hidJ (by rw [← hall];exact HI.out);have hzr:=HB.out.size
      have hpar:Hid (parens (l.map aH)=[40]++Lib.join (l.map aH) [44]++[41]):=Any.hidJ (by
       cases l with
       | nil=>simp at hpos
       | cons x r=>rfl)
      clear hall HI;subst hke
      go_wp2_with (go_at_call 158;refine (Tryz.Wx B b _ 41 wr HI'.out (by simp only [List.length_append,List.length_cons,List.length_nil];omega) (by omega)).mono ?_;rintro e w4 ⟨rfl,hI4,hB4,hK4⟩)
      refine bodyPost_end (results_none rfl _ _ _) rfl ?_;refine ⟨rfl,?_,HB.out.trans hB4,HK.out.trans hK4⟩;rw [fE,hpar.out];have e:s++(n++([40]++Lib.join (l.map aH) [44]++[41]))=s++n++[40]++Lib.join (l.map aH) [44]++[41]:=(by simp);rw [e];exact hI4
theorem jk {P:Program} (a b:List UInt8) (h:a.length+b.length≤4611686018427387904) (w:World):(Op.stringOp .add ⟨a.toArray⟩ ⟨b.toArray⟩).run P w = .ok (.string ⟨(a++b).toArray⟩) w:=by
 have h1:=run_string_add_sum (P:=P) (w:=w) ⟨a.toArray⟩ ⟨b.toArray⟩ (by simp [ByteArray.size];omega);rw [h1];congr 2
theorem Um {B b:Nat} {l:Str} {w w':World} (h:Tryz.IsB B b l w) (hk:∀ k,k<w.heap.size→w'.heap[k]?=w.heap[k]?):Tryz.IsB B b l w':=by
 have key:∀ p,Lib.BuilderAtF 98 5 B b p (Lib.byteCells l) w→Lib.BuilderAtF 98 5 B b p (Lib.byteCells l) w':=fun p ⟨hB,v,hb,⟨h1,h2⟩,hne⟩=>by
  refine ⟨hB,v,(hk b (Array.getElem?_eq_some_iff.1 hb).1).trans hb,⟨h1,?_⟩,hne⟩;rcases h2 with h2 | ⟨g,cap,cur,fz,e1,e2,e3,r⟩
  ·exact .inl h2
  ·exact .inr ⟨g,cap,cur,fz,e1,e2,(hk g (Array.getElem?_eq_some_iff.1 e3).1).trans e3,r⟩
 rcases h with h | h
 ·exact .inl (key _ h)
 ·exact .inr (key _ h)
theorem NR (B:Nat) (w:World) (h:B≤w.heap.size):Tryz.IsB B w.heap.size [] (w.alloc (.cells #[.pointer none,.slice none 0 0] 98)):=
 .inl ⟨h,.slice none 0 0,heap_alloc_new w _,⟨rfl,.inl ⟨rfl,rfl⟩⟩,by simp [Value.ownBlock]⟩
set_option maxHeartbeats 1000000 in
set_option maxRecDepth 100000 in
theorem Tryz.Ro (t:Tm) (w:World) (v:Value) (hrd:Abs.RdD (fun k=>k<w.heap.size) w v (enT t)) (hlen:(aH t).length≤140737488355328) :
  Calls Tryz.prog 44 #[v] w fun e w'=>e = .returned (.string ⟨(aH t).toArray⟩)∧Below w.heap.size w w':=by
 obtain ⟨n,l⟩:=t;have hrd0:=hrd;obtain ⟨u,rfl,hu⟩:=rdt hrd;obtain ⟨a,cap,rfl,_⟩:=rdl hu;obtain ⟨W,hW⟩:∃ W,w.alloc (.cells #[.string ⟨n.toArray⟩,.slice a l.length cap] 42)=W:=⟨_,rfl⟩
 have hsz:W.heap.size=w.heap.size+1:=by rw [← hW];simp
 have hb0:=NR w.heap.size W (by omega);rw [hsz] at hb0;have x1:W.heap[w.heap.size]?=some (.cells #[.string ⟨n.toArray⟩,.slice a l.length cap] 42 (0,0)):=by rw [← hW];exact heap_alloc_new w _
 obtain ⟨W2,hW2⟩:∃ W2,W.alloc (.cells #[.pointer none,.slice none 0 0] 98)=W2:=⟨_,rfl⟩
 have x2:W2.heap[w.heap.size]?=some (.cells #[.string ⟨n.toArray⟩,.slice a l.length cap] 42 (0,0)):=by rw [← hW2];exact (heap_alloc_old W _ (by omega:w.heap.size<W.heap.size)).trans x1
 have hB2:Below w.heap.size w W2:=by rw [← hW2,← hW];exact ((Below.refl _ w).alloc (Nat.le_refl _) _).alloc (by simp) _
 rw [hW2] at hb0;have hs2:=hB2.size;have cW:=Tryz.writeT (SizeOf.sizeOf (Tm.mk n l)+1) (.mk n l) (by omega) w.heap.size (w.heap.size+1) [] W2 _ hb0 hs2 (hrd0.mono (fun q hq=>hB2.block q hq) (fun _ h=>h)) (by simpa using hlen);have l0:W2.cell? ⟨w.heap.size,0,none⟩=some (.string ⟨n.toArray⟩):=by simp [World.cell?,x2]
 have l1:W2.cell? ⟨w.heap.size,1,none⟩=some (.slice a l.length cap):=by simp [World.cell?,x2]
 clear hrd hrd0 hu hb0 x1 x2;rw [List.nil_append] at cW;have HB:=Any.hidJ hB2;have Hz:=Any.hidJ hs2;clear hB2 hs2
 go_enter Tryz.func44,Tryz.ntmps44
 go_wp2_with (first | (go_at_call 93;refine cW.mono ?_;rintro e w1 ⟨rfl,h1,hb1,_⟩;have cS:=Tryz.ZU w.heap.size (w.heap.size+1) _ w1 h1 (Nat.le_trans Hz.out hb1.size)) | (go_at_call 46;refine cS.mono ?_;rintro e w2 ⟨rfl,hb2⟩))
 go_ret
 exact ⟨rfl,(HB.out.trans hb1).trans hb2⟩
theorem Tryz.infoStrD:(Tryz.prog.info? 9).map (fun i=>(i.zero,i.size,i.bytes))=some (some (.string ⟨#[]⟩),1,16):=by kernel_rfl
def oI (l:List Tm) (k:Nat):List Value:=(l.take k).map fun t => .string ⟨(aH t).toArray⟩
theorem GL {l:List Tm} {k:Nat} (h:k<l.length):oI l (k+1)=oI l k++[.string ⟨(aH l[k]).toArray⟩]:=by
 unfold oI;rw [List.take_succ_eq_append_getElem h,List.map_append];rfl
set_option maxHeartbeats 2000000 in
set_option maxRecDepth 100000 in
theorem Tryz.Xi (l:List Tm) (w:World) (v:Value) (hrd:Abs.RdD (fun k=>k<w.heap.size) w v (.list (l.map enT))) (hlen:(Lib.join (l.map aH) [44,32]).length≤140737488355328) (hl:l.length≤10000000) :
  Calls Tryz.prog 45 #[v] w fun e w'=>e = .returned (.string ⟨(Lib.join (l.map aH) [44,32]).toArray⟩)∧Below w.heap.size w w':=by
 obtain ⟨i0,hi,hz0,hz1,hz2⟩:=info_parts Tryz.infoStrD;obtain ⟨a,cap,rfl,hcs⟩:=rdl hrd;have HC:=Any.hidJ hcs;clear hcs hrd
 go_enter Tryz.func45,Tryz.ntmps45
 go_wp2_with fail
 go_loopw [3,8] (fun v3 i wr=>∃ k:Nat,k≤l.length∧i = .int .i64 k∧Hid (wr.ownsRow w.heap.size 9 1 v3 k (oI l k))∧Hid (Below w.heap.size w wr)) (fun _ i _=>l.length-(intOf i).toNat)
 case atStart=>exact ⟨0,Nat.zero_le _,rfl,Any.hidJ ⟨rfl,.inl ⟨rfl,rfl⟩⟩,Any.hidJ (Below.refl _ _)⟩
 case round=>
  obtain ⟨k,hk,rfl,HO,HB⟩:=hrel;have hzr:=HB.out.size;by_cases hkl:k<l.length
  ·obtain ⟨bk,o,rfl,hbk,hlc,hcm,hcells⟩:=HC.out.resolve_left (fun e=>by rw [e] at hkl;cases hkl);obtain ⟨u0,u1,c0,c1,hr⟩:=hcells k hkl;obtain ⟨⟨x0,rfl⟩,a1,n1,m1,rfl⟩:=JH hr;have d0:wr.cell? ⟨bk,o+k*2,none⟩=some (.string x0):=(HB.out.cell (p:=⟨bk,o+k*2,none⟩) hbk).trans c0;have d1:wr.cell? ⟨bk,o+k*2+1,none⟩=some (.slice a1 n1 m1):=(HB.out.cell (p:=⟨bk,o+(k*2+1),none⟩) hbk).trans c1;clear c0 c1;have hrh:=Any.hidJ hr;have hpt:=Df (List.mem_map.2 ⟨l[k],List.getElem_mem hkl,rfl⟩:aH l[k]∈l.map aH) [44,32];clear hr hcells;obtain ⟨W1,hW1⟩:∃ W1,wr.alloc (.cells #[.string x0,.slice a1 n1 m1] 42)=W1:=⟨_,rfl⟩
   have hsz1:W1.heap.size=wr.heap.size+1:=(by rw [← hW1];simp);have y1:W1.heap[wr.heap.size]?=some (.cells #[.string x0,.slice a1 n1 m1] 42 (0,0)):=(by rw [← hW1];exact heap_alloc_new wr _);have e0:W1.cell? ⟨wr.heap.size,0,none⟩=some (.string x0):=(by simp [World.cell?,y1]);have e1:W1.cell? ⟨wr.heap.size,1,none⟩=some (.slice a1 n1 m1):=(by simp [World.cell?,y1]);have HB1:Hid (Below w.heap.size w W1):=Any.hidJ (by rw [← hW1];exact HB.out.alloc (by omega) _);have HO1:Hid (W1.ownsRow w.heap.size 9 1 u3 k (oI l k)):=Any.hidJ (by rw [← hW1];exact HO.out.alloc _);have Hs:=Any.hidJ (GL hkl);clear y1
   go_wp2_with (first
    | (go_at_call 44;refine (Tryz.Ro l[k] W1 _ (hrh.out.mono (fun q hq=>HB1.out.block q hq) (fun q hq=>Nat.lt_of_lt_of_le hq HB1.out.size)) (by omega)).mono ?_;rintro e w2 ⟨rfl,hb2⟩;have HB2:=Any.hidJ (HB1.out.trans (hb2.mono HB1.out.size));have HO2:=Any.hidJ (HO1.out.kept (row:=none) ⟨hb2.os,hb2.tape,hb2.output,hb2.size,fun k hk _=>hb2.block k hk⟩ (by cases hq:Value.ownBlock u3 with
      | none=>exact .inl rfl
      | some _=>exact .inr (by simp))))
    | (at_builtin;refine wpList_append_own _ rfl _ _ 152 rfl w.heap.size 9 i0 (.string ⟨#[]⟩) 1 16 Tryz.underlying152 hi hz0 hz1 hz2 rfl (by decide) _ _ _ rfl (HO2.out.alloc _) ⟨w2.heap.size,0,none⟩ 1 1 [.string ⟨(aH l[k]).toArray⟩] rfl rfl ?c1 ?c2 ?c3 ?c4 ?c5 ?_))
   case c1=>
    intro j u hj
    match j,hj with
    | 0,hj=>simp at hj;subst hj;simp [Addr.add]
   case c2=>intro u hu;simp at hu;subst hu;rfl
   case c3=>unfold maxLen;omega
   case c4=>omega
   case c5=>have:=HB2.out.size;simp;omega
   intro v' w3 hown' hgrow _;have HO3:Hid (w3.ownsRow w.heap.size 9 1 v' (k+1) (oI l (k+1))):=Any.hidJ (by rw [Hs.out];exact hown');have HB3:Hid (Below w.heap.size w w3):=Any.hidJ ((HB2.out.alloc (by have:=HB2.out.size;omega) _).grown hgrow (by have:=HB2.out.size;simp;omega) (fun k hk=>(HO2.out.lt k hk).1));clear hown' hgrow;have HL:=Any.hidJ hkl
   go_wp2_with fail
   go_roundw
   case rel=>exact ⟨k+1,by have:=HL.out;omega,by go_num,HO3,HB3⟩
   case measure=>have:=HL.out;simp [intOf];omega
  ·have hke:k=l.length:=(by omega);have hall:oI l k=(l.map aH).map fun s=>Value.string ⟨s.toArray⟩:=(by rw [hke,oI,List.take_length,List.map_map];rfl);have HO':Hid (wr.ownsRow w.heap.size 9 1 u3 l.length ((l.map aH).map fun s=>Value.string ⟨s.toArray⟩)):=Any.hidJ (by rw [← hall,← hke];exact HO.out)
   have hJ:Hid (Calls Tryz.prog 94 #[u3,.string ⟨#[44,32]⟩] wr fun e w'=>e = .returned (.string ⟨(Lib.join (l.map aH) [44,32]).toArray⟩)∧Below wr.heap.size wr w'):=Any.hidJ (by
    rcases HO'.out.2 with ⟨rfl,h0⟩ | ⟨g,cp,cur,rfl,hg,hh,hn,hc,hz,ht⟩
    ·obtain rfl:l=[]:=List.length_eq_zero_iff.1 h0;exact (Tryz.aeP [44,32] wr)
    ·have hgl:g<wr.heap.size:=(Array.getElem?_eq_some_iff.1 hh).1;have:=Tryz.ahk g 0 cp (l.map aH) [44,32] wr (fun j x hx=>?_) hgl (by simp;omega) (by simpa using hn) hlen
     ·rw [List.length_map] at this;exact this
     ·rw [Nat.zero_add,Lib.cell_of_heap hh];have hj:j<l.length:=(by have:=(List.getElem?_eq_some_iff.1 hx).1;simpa using this);have e:(cur.toList.take (l.length*1))[j]?=some (.string ⟨x.toArray⟩):=(by rw [ht,List.getElem?_map,hx];rfl);rw [List.getElem?_take,if_pos (by omega)] at e
      simpa using e)
   clear hall HO HO'
   go_wp2_with (go_at_call 94;refine hJ.out.mono ?_;rintro e w4 ⟨rfl,hb4⟩)
   go_ret
   exact ⟨rfl,HB.out.trans (hb4.mono hzr)⟩
end Go.Proofs
namespace Go.Proofs
open Go Go.RowKit Go.Shelf Go.Abs Go.Own Go.Proofs.YtpmapognbdiahaaGreatDoor
set_option maxHeartbeats 4000000 in
set_option maxRecDepth 100000 in
theorem Tryz.ajP:∀ (t:Tm),(aH t).length≤1000000000→∀ (w:World) (v:Value),RdD (fun b=>b<w.heap.size) w v (enT t)→Calls Tryz.prog 109 #[v] w fun e w'=>e = .returned (.string ⟨(aH t).toArray⟩)∧Below w.heap.size w w':=Tm.ind fun t ih hlen w v hv=>by
 obtain ⟨n,l⟩:=t;simp only [Tm.args] at ih
 replace ih:=hid ih
 have ht:=fE n l;generalize aH (.mk n l)=tx at ht hlen ⊢;obtain ⟨u,rfl,hu⟩:=rdt hv;obtain ⟨a,cap,rfl,hc⟩:=rdl hu;have hm:l.length≤9223372036854775807:=by
  rcases hc with rfl | ⟨b,o,_,_,h1,h2,_⟩
  ·simp
  ·simp only [maxLen] at h2;omega
 obtain ⟨W0,hW0⟩:∃ W,w.alloc (.cells #[.string ⟨n.toArray⟩,.slice a l.length cap] 42)=W:=⟨_,rfl⟩
 have hs0:W0.heap.size=w.heap.size+1:=by rw [← hW0];simp
 have HB0:Hid (Below w.heap.size w W0):=hid (by rw [← hW0];exact (Below.refl _ w).alloc (Nat.le_refl _) _);have y0:W0.heap[w.heap.size]?=some (.cells #[.string ⟨n.toArray⟩,.slice a l.length cap] 42 (0,0)):=by rw [← hW0];exact heap_alloc_new w _
 have hK:=hid (fun (W:World) (hb:Below W0.heap.size W0 W)=>aC ((hb.block w.heap.size (by omega)).trans y0));obtain ⟨x0,x1,_,_⟩:=aC y0
 replace y0:=hid y0
 replace hc:=hid hc
 clear hv hu hs0
 go_enter Tryz.func109,Tryz.ntmps109
 by_cases h0:l.length=0
 ·clear ih hc;obtain rfl:=List.length_eq_zero_iff.1 h0;clear h0 hlen hm;have hq:=ht.trans (by simp [parens]:_=n);clear ht;subst hq;simp only [List.length_nil] at x1 hW0 HB0 hK
  go_wp2_with fail
  go_ret
  exact ⟨rfl,HB0.out⟩
 have hpar:parens (l.map aH)=[40]++Lib.join (l.map aH) [44]++[41]:=by
  cases l with
  | nil=>exact absurd rfl h0
  | cons x r=>rfl
 have h0b:((l.length:Int)==0)=false:=by simpa using h0
 replace h0:=hid h0
 rw [hpar] at ht;have hlen2:=hid (show n.length+1+(Lib.join (l.map aH) [44]).length+1≤1000000000 by rw [ht] at hlen;simp at hlen;omega)
 replace ht:=hid ht
 clear hpar hlen;have ad0:∀ w,(Op.stringOp .add ⟨n.toArray⟩ ⟨#[40]⟩).run Tryz.prog w = .ok (.string ⟨(n++[40]++dM l 0).toArray⟩) w:=fun w=>by
  have:=hlen2.out;rw [show dM l 0=[] from rfl,List.append_nil];exact jk n [40] (by simp;omega) w
 generalize hg:n++[40]++dM l 0=g0 at ad0
 replace hg:=hid hg
 go_wp2_with fail
 go_loopw [3,17] (fun vo vi wr=>∃ i:Nat,vo = .string ⟨(n++[40]++dM l i).toArray⟩∧vi = .int .i64 i∧i≤l.length∧Hid (Below W0.heap.size W0 wr)) (fun _ vi _=>l.length-(intOf vi).toNat)
 case atStart=>exact ⟨0,by rw [hg.out],rfl,Nat.zero_le _,hid (Below.refl _ _)⟩
 case round=>
  obtain ⟨i,rfl,rfl,hi,hB⟩:=hrel;clear h0b;obtain ⟨k0,k1,_,_⟩:=hK.out wr hB.out;have hle:=wB l i;by_cases hlt:i<l.length
  ·obtain ⟨b,o,rfl,hb,hlc,hcm,hcs⟩:=hc.out.resolve_left (fun h=>by rw [h] at hlt;simp at hlt);obtain ⟨u0,u1,c0,c1,hr⟩:=hcs i hlt;have hBB:=hid (HB0.out.trans (hB.out.mono HB0.out.size));have hbl:b<wr.heap.size:=Nat.lt_of_lt_of_le hb hBB.out.size;have hwl:w.heap.size<wr.heap.size:=(by have:=hB.out.size;rw [← hW0] at this;simp at this;omega);have c0:=(hBB.out.cell (p:=⟨b,o+i*2,none⟩) hb).trans c0;have c1:=(hBB.out.cell (p:=⟨b,o+(i*2+1),none⟩) hb).trans c1;rw [← Nat.add_assoc] at c1;have hle1:=wB l (i+1);have hsucc:=xg hlt;have hll:=hlen2.out;have ht1:=Df (List.mem_map.2 ⟨l[i],List.getElem_mem hlt,rfl⟩:aH l[i]∈l.map aH) [44];have cI:=hid (fun (W:World) (h:Below wr.heap.size wr W)=>ih.out l[i] (List.getElem_mem hlt) (by omega) W _ (aO h (aO hBB.out hr)));simp only [maxLen] at hcm;clear hcs hr;generalize aH l[i]=ti at *;generalize hs:n++[40]++dM l i=s0 at *;have hs0l:s0.length=n.length+1+(dM l i).length:=(by rw [← hs];simp;omega);have hlt2:=hid hlt;by_cases hi0:i=0
   ·rw [if_pos hi0] at hsucc;have ad1:∀ w,(Op.stringOp .add ⟨s0.toArray⟩ ⟨ti.toArray⟩).run Tryz.prog w = .ok (.string ⟨(s0++ti).toArray⟩) w:=fun w=>jk s0 ti (by omega) w
    have hnx:=hid (show s0++ti=n++[40]++dM l (i+1) by rw [hsucc,← hs];simp);have hgi:¬ 0<(i:Int):=(by omega);generalize s0++ti=s1 at *
    replace hi0:=hid hi0
    clear hle hle1 hsucc ht1 hll hs hs0l
    go_wp2_with (go_at_call 109;refine (cI.out _ (Below.refl _ _)).mono ?_;rintro e w2 ⟨rfl,hb2⟩;replace hb2:=hid hb2)
    go_roundw
    case rel=>exact ⟨i+1,by rw [← hnx.out],by go_num,hlt2.out,hid (hB.out.trans (hb2.out.mono hB.out.size))⟩
    case measure=>have:=hlt2.out;simp [intOf];omega
   ·rw [if_neg hi0] at hsucc;have ad0:∀ w,(Op.stringOp .add ⟨s0.toArray⟩ ⟨#[44]⟩).run Tryz.prog w = .ok (.string ⟨(s0++[44]).toArray⟩) w:=fun w=>jk s0 [44] (by simp;omega) w
    have ad1:∀ w,(Op.stringOp .add ⟨(s0++[44]).toArray⟩ ⟨ti.toArray⟩).run Tryz.prog w = .ok (.string ⟨(s0++[44]++ti).toArray⟩) w:=fun w=>jk (s0++[44]) ti (by simp;omega) w
    have hnx:=hid (show s0++[44]++ti=n++[40]++dM l (i+1) by rw [hsucc,← hs];simp);have hgi:0<(i:Int):=(by omega);generalize s0++[44]++ti=s1 at *;generalize s0++[44]=s2 at *
    replace hi0:=hid hi0
    clear hle hle1 hsucc ht1 hll hs hs0l
    go_wp2_with (go_at_call 109;refine (cI.out _ (Below.refl _ _)).mono ?_;rintro e w2 ⟨rfl,hb2⟩;replace hb2:=hid hb2)
    go_roundw
    case rel=>exact ⟨i+1,by rw [← hnx.out],by go_num,hlt2.out,hid (hB.out.trans (hb2.out.mono hB.out.size))⟩
    case measure=>have:=hlt2.out;simp [intOf];omega
  ·obtain rfl:i=l.length:=by omega
   have hll:=hlen2.out;have hall:dM l l.length=Lib.join (l.map aH) [44]:=(by rw [dM,nR,List.take_length]);have hfin:=hid (show (n++[40]++dM l l.length)++[41]=tx by rw [ht.out,hall];simp);generalize hs:n++[40]++dM l l.length=s0 at *;have hs0l:s0.length=n.length+1+(dM l l.length).length:=(by rw [← hs];simp;omega);have ad1:∀ w,(Op.stringOp .add ⟨s0.toArray⟩ ⟨#[41]⟩).run Tryz.prog w = .ok (.string ⟨tx.toArray⟩) w:=fun w=>by rw [← hfin.out];exact jk s0 [41] (by simp;omega) w
   clear hle hll hs hs0l hall
   go_wp2_with fail
   go_ret
   exact ⟨rfl,HB0.out.trans (hB.out.mono HB0.out.size)⟩
theorem Tryz.ajQ (t:Tm) (w:World) (v:Value) (hv:RdD (fun b=>b<w.heap.size) w v (enT t)) (hlen:(aH t).length≤1000000000):Calls Tryz.prog 109 #[v] w fun e w'=>e = .returned (.string ⟨(aH t).toArray⟩)∧Below w.heap.size w w':=Tryz.ajP t hlen w v hv
theorem Tryz.akq (t u:Tm) (w:World) (v x:Value) (hv:RdD (fun b=>b<w.heap.size) w v (enT t)) (hx:RdD (fun b=>b<w.heap.size) w x (enT u)):Calls Tryz.prog 47 #[v,x] w fun e w'=>e = .returned (.int .i64 (jD t u))∧Below w.heap.size w w':=Tryz.aiM t u w v x hv hx
theorem Tryz.aiL (t u:Tm) (w:World) (v x:Value) (hv:RdD (fun b=>b<w.heap.size) w v (enT t)) (hx:RdD (fun b=>b<w.heap.size) w x (enT u)):Calls Tryz.prog 59 #[v,x] w fun e w'=>e = .returned (.int .i64 (jD t u))∧Below w.heap.size w w':=Tryz.adP t u w v x hv hx
end Go.Proofs
namespace Go.Proofs
open Go Go.RowKit
theorem Tryz.xW (ρ:Operand→Value) (w:World) (d:Option Tmp) (t:TypeId) (p:String) (af:Array Edge):(execOp ρ { dst:=d,op:=Op.call { callee:=Callee.builtin Builtin.recover,args:=#[],argTypes:=#[] },type:=t,pos:=p,after:=af,guard:=none }).run Tryz.prog w = .ok .recover w:=by
 simp [execOp,go_sem]
theorem Tryz.Rw (ρ:Operand→Value) (w:World) (d:Option Tmp) (t:TypeId) (p:String) (af:Array Edge) (h:ρ (.tmp 7) = .nilIface):(execOp ρ { dst:=d,op:=Op.typeAssert (Operand.tmp 7) 20 226 true,type:=t,pos:=p,after:=af,guard:=none }).run Tryz.prog w = .ok (.value (.tuple #[.agg #[.int .i64 0,.int .i64 0],.bool false])) w:=by
 simp [execOp,Instr.typeAssert,go_sem,h]
section
variable {P:Program} {Q:Exit→Act→List Frame→World→Prop} {a:Act} {cs:List Frame} {w w':World} {ops:Array Oper} {i:Nat} {rest:List Nat} {o:Oper}
theorem yA {c:Frame} (ho:ops[i]?=some o) (hg:o.guard=none) (hr:(execOp a.eval o).run P w = .ok .recover w') (hu:c.mode = .returning) (h:wpOpsS P ops Q rest (a.put o.dst .nilIface) (c::cs) w'):wpOpsS P ops Q (i::rest) a (c::cs) w:=by
 simp [wpOpsS,ho,Region.wanted,hg,hr,recoverD,hu];exact h
theorem aS {v:Value} (ho:ops[i]?=some o) (hg:o.guard=none) (hr:(execOp a.eval o).run P w = .ok (.value v) w') (h:wpOpsS P ops Q rest (a.put o.dst v) cs w'):wpOpsS P ops Q (i::rest) a cs w:=by
 simp [wpOpsS,ho,Region.wanted,hg,hr,Oper.upon];exact h
theorem kR (ho:ops[i]?=some o) (hg:o.guard=none) (hr:(execOp a.eval o).run P w = .ok .skip w') (h:wpOpsS P ops Q rest (a.put o.dst undef) cs w'):wpOpsS P ops Q (i::rest) a cs w:=by
 simp [wpOpsS,ho,Region.wanted,hg,hr,Oper.upon];exact h
end
set_option maxRecDepth 100000 in
theorem Tryz.idle1 (args:Array Value) (w:World) (hs:args.size=3):CallsD Tryz.prog 166 args .returning w fun e u w'=>(∃ v,e = .returned v)∧u = .returning∧Below w.heap.size w w':=by
 obtain ⟨p0,p1,p2,rfl⟩:∃ a b c,args=#[a,b,c]:=by
  obtain ⟨l⟩:=args
  match l,hs with
  | [a,b,c],_=>exact ⟨a,b,c,rfl⟩
 refine callsD_of_wpS Tryz.func166 rfl fun c₀ cs hu=>?_
 rw [Tryz.ntmps166];apply wpS_seq;apply wpS_region;rw [show List.range _=[0,1,2,3,4,5,6,7] from rfl];generalize hQ:Exit.thenS _ _=Q;generalize hO:(List.toArray _:Array Oper)=ops;have h0:=congrArg (fun x:Array Oper=>x[0]?) hO.symm;have h1:=congrArg (fun x:Array Oper=>x[1]?) hO.symm;have h2:=congrArg (fun x:Array Oper=>x[2]?) hO.symm;have h3:=congrArg (fun x:Array Oper=>x[3]?) hO.symm;have h4:=congrArg (fun x:Array Oper=>x[4]?) hO.symm;have h5:=congrArg (fun x:Array Oper=>x[5]?) hO.symm;have h6:=congrArg (fun x:Array Oper=>x[6]?) hO.symm;have h7:=congrArg (fun x:Array Oper=>x[7]?) hO.symm;simp only [List.getElem?_toArray,List.getElem?_cons_succ,List.getElem?_cons_zero] at h0 h1 h2 h3 h4 h5 h6 h7;clear hO;simp only [List.size_toArray,List.length_cons,List.length_nil,Nat.reduceAdd,Nat.reduceSub,Array.replicate_succ,Array.replicate_zero,List.push_toArray,List.append_toArray,List.nil_append,List.cons_append];refine yA h0 rfl (Tryz.xW _ _ _ _ _ _) hu ?_;simp [Act.put];refine aS h1 rfl (Tryz.Rw _ _ _ _ _ _ (by simp [Act.eval])) ?_;simp [Act.put];refine aS h2 rfl (by simp [execOp,go_sem,Act.eval];first | rfl | exact ⟨rfl,rfl⟩) ?_;simp [Act.put];refine aS h3 rfl (by simp [execOp,go_sem,Act.eval];first | rfl | exact ⟨rfl,rfl⟩) ?_;simp [Act.put];refine aS h4 rfl (by simp [execOp,go_sem,Act.eval];first | rfl | exact ⟨rfl,rfl⟩) ?_;simp [Act.put];refine aS h5 rfl (by simp [execOp,go_sem,Act.eval];first | rfl | exact ⟨rfl,rfl⟩) ?_;simp [Act.put];refine kR h6 rfl (by simp [execOp,go_sem,Act.eval];first | rfl | exact ⟨rfl,rfl⟩) ?_;simp [Act.put];refine aS h7 rfl (by simp [execOp,go_sem,Act.eval];first | rfl | exact ⟨rfl,rfl⟩) ?_;simp [Act.put];show Q .normal _ _ _;subst hQ;apply wpS_seq;apply wpS_region;rw [show List.range _=[0] from rfl];generalize hQ:Exit.thenS _ _=Q;clear h0 h1 h2 h3 h4 h5 h6 h7;refine aS (o:={ dst:=some 11,op:=Op.move (Operand.tmp 4),type:=4,pos := "parser.go:155",after:=#[],guard:=none }) rfl rfl (by simp [execOp,go_sem,Act.eval];first | rfl | exact ⟨rfl,rfl⟩) ?_;simp [Act.put];show Q .normal _ _ _;subst hQ;refine wpS_cond (t:=false) (by simp [Act.eval]) ?_;simp only [Bool.false_eq_true,if_false];refine wpS_of_wp (wp_skip ?_);refine ⟨rfl,.returning,by cases c₀;simp_all,.tuple #[],by simp [results,Tryz.results166],⟨_,rfl⟩,rfl,?_⟩;exact (Below.refl _ w).alloc (Nat.le_refl _) _
set_option maxRecDepth 100000 in
theorem Tryz.ahn (args:Array Value) (w:World) (hs:args.size=3):CallsD Tryz.prog 170 args .returning w fun e u w'=>(∃ v,e = .returned v)∧u = .returning∧Below w.heap.size w w':=by
 obtain ⟨p0,p1,p2,rfl⟩:∃ a b c,args=#[a,b,c]:=by
  obtain ⟨l⟩:=args
  match l,hs with
  | [a,b,c],_=>exact ⟨a,b,c,rfl⟩
 refine callsD_of_wpS Tryz.func170 rfl fun c₀ cs hu=>?_
 rw [Tryz.ntmps170];apply wpS_seq;apply wpS_region;rw [show List.range _=[0,1,2,3,4,5,6,7] from rfl];generalize hQ:Exit.thenS _ _=Q;generalize hO:(List.toArray _:Array Oper)=ops;have h0:=congrArg (fun x:Array Oper=>x[0]?) hO.symm;have h1:=congrArg (fun x:Array Oper=>x[1]?) hO.symm;have h2:=congrArg (fun x:Array Oper=>x[2]?) hO.symm;have h3:=congrArg (fun x:Array Oper=>x[3]?) hO.symm;have h4:=congrArg (fun x:Array Oper=>x[4]?) hO.symm;have h5:=congrArg (fun x:Array Oper=>x[5]?) hO.symm;have h6:=congrArg (fun x:Array Oper=>x[6]?) hO.symm;have h7:=congrArg (fun x:Array Oper=>x[7]?) hO.symm;simp only [List.getElem?_toArray,List.getElem?_cons_succ,List.getElem?_cons_zero] at h0 h1 h2 h3 h4 h5 h6 h7;clear hO;simp only [List.size_toArray,List.length_cons,List.length_nil,Nat.reduceAdd,Nat.reduceSub,Array.replicate_succ,Array.replicate_zero,List.push_toArray,List.append_toArray,List.nil_append,List.cons_append];refine yA h0 rfl (Tryz.xW _ _ _ _ _ _) hu ?_;simp [Act.put];refine aS h1 rfl (Tryz.Rw _ _ _ _ _ _ (by simp [Act.eval])) ?_;simp [Act.put];refine aS h2 rfl (by simp [execOp,go_sem,Act.eval];first | rfl | exact ⟨rfl,rfl⟩) ?_;simp [Act.put];refine aS h3 rfl (by simp [execOp,go_sem,Act.eval];first | rfl | exact ⟨rfl,rfl⟩) ?_;simp [Act.put];refine aS h4 rfl (by simp [execOp,go_sem,Act.eval];first | rfl | exact ⟨rfl,rfl⟩) ?_;simp [Act.put];refine aS h5 rfl (by simp [execOp,go_sem,Act.eval];first | rfl | exact ⟨rfl,rfl⟩) ?_;simp [Act.put];refine kR h6 rfl (by simp [execOp,go_sem,Act.eval];first | rfl | exact ⟨rfl,rfl⟩) ?_;simp [Act.put];refine aS h7 rfl (by simp [execOp,go_sem,Act.eval];first | rfl | exact ⟨rfl,rfl⟩) ?_;simp [Act.put];show Q .normal _ _ _;subst hQ;apply wpS_seq;apply wpS_region;rw [show List.range _=[0] from rfl];generalize hQ:Exit.thenS _ _=Q;clear h0 h1 h2 h3 h4 h5 h6 h7;refine aS (o:={ dst:=some 11,op:=Op.move (Operand.tmp 4),type:=4,pos := "parser.go:155",after:=#[],guard:=none }) rfl rfl (by simp [execOp,go_sem,Act.eval];first | rfl | exact ⟨rfl,rfl⟩) ?_;simp [Act.put];show Q .normal _ _ _;subst hQ;refine wpS_cond (t:=false) (by simp [Act.eval]) ?_;simp only [Bool.false_eq_true,if_false];refine wpS_of_wp (wp_skip ?_);refine ⟨rfl,.returning,by cases c₀;simp_all,.tuple #[],by simp [results,Tryz.results170],⟨_,rfl⟩,rfl,?_⟩;exact (Below.refl _ w).alloc (Nat.le_refl _) _
end Go.Proofs
