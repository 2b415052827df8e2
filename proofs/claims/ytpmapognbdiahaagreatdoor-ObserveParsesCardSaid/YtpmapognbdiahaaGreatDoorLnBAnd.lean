/- observe.line: the ground test over a list. -/
import Derived.Test.YtpmapognbdiahaaGreatDoorTnGAnd
import Derived.Test.YtpmapognbdiahaaGreatDoorPrAAnd
import Derived.Test.YtpmapognbdiahaaGreatDoorTmMAnd
import Derived.Test.YtpmapognbdiahaaGreatDoorPwAAnd
import Derived.Deep.RegionLaw
import Derived.Shelf.Abstract
import Derived.Shelf.Small.Strs
import Derived.Ground.NamesProg
import Derived.WalkKit
import Derived.Test.YtpmapognbdiahaaGreatDoorProg
import Derived.Deep.RegionHeld3
import Derived.RangeFuncOwn
import Derived.RangeFuncCalls
import Derived.RangeFuncLeaves
import Derived.TacticsIn
import Derived.RegionIn
import Derived.OwnWalkIn
import Derived.TacticsInMore
import Derived.LoopNIn
import Derived.Lib.Builder
import Derived.Maps.OwnIn
set_option linter.all false
namespace Go.Proofs
open Go Go.RowKit Go.Shelf Go.Abs Go.Own Go.Proofs.YtpmapognbdiahaaGreatDoor
set_option maxHeartbeats 1000000 in
set_option maxRecDepth 100000 in
theorem Tryz.Ij (t:Tm) (w:World) (v:Value) (hv:RdD (fun b=>b<w.heap.size) w v (enT t)):Calls Tryz.prog 56 #[v] w fun e w'=>e = .returned (.bool (!bH false 4 t))∧Below w.heap.size w w':=by
 obtain ⟨n,l⟩:=t;have hv0:=hv;obtain ⟨u,rfl,hu⟩:=rdt hv;obtain ⟨a,cap,rfl,_⟩:=rdl hu;have hB0:=(Below.refl w.heap.size w).alloc (Nat.le_refl _) (.cells #[.string ⟨n.toArray⟩,.slice a l.length cap] 42);have c:=Tryz.ahz (.mk n l) _ _ (aO hB0 hv0);generalize bH false 4 (.mk n l)=b at c;have HB0:=hid hB0;clear hv hv0 hu hB0
 go_enter Tryz.func56,Tryz.ntmps56
 go_wp2_with (go_at_call 54;refine c.mono ?_;rintro e w1 ⟨rfl,hb⟩)
 go_ret
 exact ⟨rfl,HB0.out.trans (hb.mono HB0.out.size)⟩
set_option maxHeartbeats 1000000 in
set_option maxRecDepth 100000 in
theorem Tryz.XO (l:List Tm) (hl:l.length≤1000000) (w:World) (v:Value) (hv:RdD (fun b=>b<w.heap.size) w v (.list (l.map enT))) :
  Calls Tryz.prog 72 #[v,.func (.func 56) #[] #[]] w fun e w'=>(∃ r:Int,e = .returned (.int .i64 r)∧decide (0≤r)=!(l.all (bH false 4)))∧Below w.heap.size w w':=by
 have hE:∀ args w,(callFunc 56 args).run Tryz.prog w = .ok (.enter 56 args) w:=enters_of Tryz.func56 (by kernel_rfl) rfl;obtain ⟨a,cap,rfl,hcs⟩:=rdl hv;have HC:=hid hcs;clear hcs hv
 go_enter Tryz.func72,Tryz.ntmps72
 go_wp2_with fail
 go_loopw [8] (fun vi wr=>∃ i:Nat,vi = .int .i64 i∧i≤l.length∧Hid ((l.take i).all (bH false 4)=true)∧Hid (Below w.heap.size w wr)) (fun vi _=>l.length-(intOf vi).toNat)
 case atStart=>exact ⟨0,rfl,Nat.zero_le _,hid rfl,hid (Below.refl _ _)⟩
 case round=>
  obtain ⟨i,rfl,hi,hall,hB⟩:=hrel;by_cases hlt:i<l.length
  ·obtain ⟨b,o,rfl,hb,hlc,hcm,hcs⟩:=HC.out.resolve_left (fun h=>by rw [h] at hlt;simp at hlt);obtain ⟨u0,u1,c0,c1,hr⟩:=hcs i hlt;have c0:=(hB.out.cell (p:=⟨b,o+i*2,none⟩) hb).trans c0;have c1:=(hB.out.cell (p:=⟨b,o+(i*2+1),none⟩) hb).trans c1;rw [← Nat.add_assoc] at c1;have hr:=hid (aO hB.out hr);clear hcs;simp only [maxLen] at hcm;cases hg:bH false 4 l[i] with
   | true=>
     go_wp2_with (go_at_fn 56;refine (Tryz.Ij _ _ _ hr.out).mono ?_;rintro e w1 ⟨rfl,hb1⟩;rw [hg])
     refine ⟨⟨i+1,by go_num,hlt,hid ?_,hid (hB.out.trans (hb1.mono hB.out.size))⟩,by simp [intOf];omega⟩;rw [List.take_succ_eq_append_getElem hlt,List.all_append,hall.out];simp [hg]
   | false=>
     go_wp2_with (go_at_fn 56;refine (Tryz.Ij _ _ _ hr.out).mono ?_;rintro e w1 ⟨rfl,hb1⟩;rw [hg])
     go_ret
     refine ⟨⟨i,rfl,?_⟩,hB.out.trans (hb1.mono hB.out.size)⟩;have:l.all (bH false 4)=false:=by
      rw [List.all_eq_false];exact ⟨l[i],List.getElem_mem hlt,by simp [hg]⟩
     rw [this];simp
  ·obtain rfl:i=l.length:=by omega
   go_wp2_with fail
   go_ret
   refine ⟨⟨-1,rfl,?_⟩,hB.out⟩;have:=hall.out;rw [List.take_length] at this;rw [this];rfl
set_option maxHeartbeats 1000000 in
set_option maxRecDepth 100000 in
theorem Tryz.ahf (l:List Tm) (hl:l.length≤1000000) (w:World) (v:Value) (hv:RdD (fun b=>b<w.heap.size) w v (.list (l.map enT))) :
  Calls Tryz.prog 55 #[v,.func (.func 56) #[] #[]] w fun e w'=>e = .returned (.bool (!(l.all (bH false 4))))∧Below w.heap.size w w':=by
 have c:=Tryz.XO l hl w v hv;generalize l.all (bH false 4)=b at c ⊢
 go_enter Tryz.func55,Tryz.ntmps55
 go_wp2_with (go_at_call 72;refine c.mono ?_;rintro e w1 ⟨⟨r,rfl,hr⟩,hb⟩)
 all_goals go_ret
 all_goals exact ⟨by rw [← hr];simp_all,hb⟩
set_option maxHeartbeats 1000000 in
set_option maxRecDepth 100000 in
theorem Tryz.Kr (f:FuncId) (p:UInt8→Bool) (hf:AO Tryz.prog f p) (hE:∀ args w,(callFunc f args).run Tryz.prog w = .ok (.enter f args) w) (s:Str) (hs:s.length≤16384) (i:Nat) (hi:i≤s.length) (w:World) :
  Calls Tryz.prog 243 #[.string ⟨s.toArray⟩,.int .i64 i,.func (.func f) #[] #[]] w fun e w'=>e = .returned (.int .i64 (bQ p s i))∧Below w.heap.size w w':=by
 have hsz:(⟨s.toArray⟩:ByteArray).size=s.length:=by simp [ByteArray.size]
 go_enter Tryz.func243,Tryz.ntmps243
 go_wp2_with fail
 go_loopw [1] (fun v wr=>∃ k:Nat,v = .int .i64 k∧k≤s.length∧Hid (bQ p s i=bQ p s k)∧Hid (Below w.heap.size w wr)) (fun v _=>s.length-(intOf v).toNat)
 case atStart=>exact ⟨i,rfl,hi,rfl,Below.refl _ _⟩
 case round=>
  obtain ⟨k,rfl,hk,hsk,hB⟩:=hrel;by_cases hlt:k<s.length
  ·have hix:=fun w=>dA (P:=Tryz.prog) Tryz.underlying9 hlt w
   have hc:=hf s[k] wr;have hnx:=jM (p:=p) hlt;have hst:=uY (p:=p) hlt;generalize p s[k]=b at hc hnx hst;generalize s[k].toNat=c at hix hc
   replace hnx:=hid hnx
   replace hst:=hid hst
   cases b with
   | true=>
     go_wp2_with (go_at_fn f;refine hc.mono ?_;rintro e w1 ⟨rfl,hb1⟩)
     go_roundw
     case rel=>exact ⟨k+1,by go_num,by omega,hid (hsk.out.trans (hnx.out (by trivial))),hid (hB.out.trans (hb1.mono hB.out.size))⟩
     case measure=>simp [intOf];omega
   | false=>
     go_wp2_with (go_at_fn f;refine hc.mono ?_;rintro e w1 ⟨rfl,hb1⟩)
     go_ret
     exact ⟨by rw [hsk.out,hst.out (by trivial)];rfl,hB.out.trans (hb1.mono hB.out.size)⟩
  ·go_wp2_with fail
   go_ret
   exact ⟨by rw [hsk.out,yJ (by omega)];rfl,hB.out⟩
def Tryz.Words (w:World):Prop:=w.cell? ⟨2,0,none⟩=some (.string ⟨#[105,102]⟩)∧w.cell? ⟨2,1,none⟩=some (.string ⟨#[97,110,100]⟩)∧w.cell? ⟨2,2,none⟩=some (.string ⟨#[110,111,116]⟩)
theorem Tryz.Words.keep {B:Nat} {w w':World} (h:Tryz.Words w) (hb:Below B w w') (hB:2<B):Tryz.Words w':=by
 have hk:=fun j=>World.cell?_of_block (w:=w) (w':=w') (a:=⟨2,j,none⟩) (hb.block _ hB)
 exact ⟨(hk 0).trans h.1,(hk 1).trans h.2.1,(hk 2).trans h.2.2⟩
def wordAt (s:Str):Int:=if s=sIf then 0 else if s=iM then 1 else if s=iK then 2 else -1
set_option maxHeartbeats 1000000 in
set_option maxRecDepth 100000 in
theorem Tryz.XM (s:Str) (w:World) (hW:Tryz.Words w):Calls Tryz.prog 267 #[.slice (some ⟨2,0,none⟩) 3 3,.string ⟨s.toArray⟩] w fun e w'=>e = .returned (.int .i64 (wordAt s))∧w'=w:=by
 obtain ⟨c0,c1,c2⟩:=hW
 go_enter Tryz.func267,Tryz.ntmps267
 go_wp2_with fail
 refine wp_loop_rounds 4 ?_;rw [rounds_succ]
 go_wp2_with fail
 ·rename_i h
  go_ret
  have h0:s=sIf:=by simpa [sIf] using h
  subst h0;exact ⟨rfl,rfl⟩
 rename_i h0;have n0:s≠sIf:=by simpa [sIf] using h0
 rw [rounds_succ]
 go_wp2_with fail
 ·rename_i h
  go_ret
  have h1:s=iM:=by simpa [iM] using h
  subst h1;exact ⟨rfl,rfl⟩
 rename_i h1;have n1:s≠iM:=by simpa [iM] using h1
 rw [rounds_succ]
 go_wp2_with fail
 ·rename_i h
  go_ret
  have h2:s=iK:=by simpa [iK] using h
  subst h2;exact ⟨rfl,rfl⟩
 rename_i h2;have n2:s≠iK:=by simpa [iK] using h2
 rw [rounds_succ]
 go_wp2_with fail
 go_ret
 refine ⟨?_,rfl⟩;rw [wordAt,if_neg n0,if_neg n1,if_neg n2];rfl
set_option maxHeartbeats 1000000 in
set_option maxRecDepth 100000 in
theorem Tryz.Kt (s:Str) (w:World) (hW:Tryz.Words w):Calls Tryz.prog 187 #[.slice (some ⟨2,0,none⟩) 3 3,.string ⟨s.toArray⟩] w fun e w'=>e = .returned (.bool (decide (0≤wordAt s)))∧w'=w:=by
 have c:=Tryz.XM s w hW;generalize wordAt s=k at c
 go_enter Tryz.func187,Tryz.ntmps187
 go_wp2_with (go_at_call 267;refine c.mono ?_;rintro e w1 ⟨rfl,rfl⟩)
 go_ret
 exact ⟨rfl,rfl⟩
set_option maxHeartbeats 1000000 in
set_option maxRecDepth 100000 in
theorem Tryz.aeA (s:Str) (w:World) (hW:Tryz.Words w):Calls Tryz.prog 313 #[.string ⟨s.toArray⟩] w fun e w'=>e = .returned (.bool (decide (s=sIf∨s=iM∨s=iK)))∧Below w.heap.size w w':=by
 have c:=Tryz.Kt s w hW;have hk:decide (0≤wordAt s)=decide (s=sIf∨s=iM∨s=iK):=by
  unfold wordAt;by_cases h0:s=sIf
  ·simp [h0]
  ·by_cases h1:s=iM
   ·subst h1;rfl
   ·by_cases h2:s=iK
    ·subst h2;rfl
    ·simp [h0,h1,h2]
 rw [hk] at c;generalize decide (s=sIf∨s=iM∨s=iK)=b at c
 go_enter Tryz.func313,Tryz.ntmps313
 go_wp2_with (go_at_call 187;refine c.mono ?_;rintro e w1 ⟨rfl,rfl⟩)
 go_ret
 exact ⟨rfl,Below.refl _ _⟩
set_option maxHeartbeats 1000000 in
set_option maxRecDepth 100000 in
theorem Tryz.TR (s:Str) (hs:s.length≤16384) (w:World) (hW:Tryz.Words w):Calls Tryz.prog 246 #[.string ⟨s.toArray⟩] w fun e w'=>e = .returned (.int .i64 (dG s))∧Below w.heap.size w w':=by
 have cN:∀ w,Calls Tryz.prog 160 #[.string ⟨s.toArray⟩] w fun e w'=>e = .returned (.tuple #[.int .i64 (oQ s),.bool (bM s)])∧Below w.heap.size w w':=fun w=>(Tryz.num s w).mono fun e w' ⟨he,hw⟩=>⟨he,hw ▸ Below.refl _ _⟩
 have cA:=Tryz.nm s;have cV:=Tryz.va s;have cW:=fun w1 (hb:Below w.heap.size w w1) (hg:2<w.heap.size)=>Tryz.aeA s w1 (hW.keep hb hg)
 have hg:2<w.heap.size:=World.block_lt_of_cell? w _ hW.1
 replace cW:=fun w1 hb=>cW w1 hb hg
 have hk:dG s=if decide (s=sIf∨s=iM∨s=iK)=true then 5 else if nameB s=true then 1 else if bM s=true then 2 else if iH s=true then 3 else 0:=by
  unfold dG;simp only [decide_eq_true_eq]
 generalize decide (s=sIf∨s=iM∨s=iK)=bw at cW hk;generalize nameB s=bn at cA hk;generalize bM s=bm at cN hk;generalize iH s=bv at cV hk;generalize dG s=k at hk ⊢;subst hk
 go_enter Tryz.func246,Tryz.ntmps246
 cases bw<;>cases bn<;>cases bm<;>cases bv <;>
  (go_wp2_with (first
   | (go_at_call 160;refine (cN _).mono ?_;rintro e w1 ⟨rfl,hb1⟩)
   | (go_at_call 313;refine (cW w1 hb1).mono ?_;rintro e w2 ⟨rfl,hb2⟩)
   | (go_at_call 172;refine (cA w2).mono ?_;rintro e w3 ⟨rfl,hb3⟩)
   | (go_at_call 161;refine (cV w3).mono ?_;rintro e w4 ⟨rfl,hb4⟩)))<;>go_ret
 all_goals first
  | exact ⟨rfl,((hb1.trans (hb2.mono hb1.size)).trans (hb3.mono (Nat.le_trans hb1.size hb2.size))).trans (hb4.mono (Nat.le_trans (Nat.le_trans hb1.size hb2.size) hb3.size))⟩
  | exact ⟨rfl,(hb1.trans (hb2.mono hb1.size)).trans (hb3.mono (Nat.le_trans hb1.size hb2.size))⟩
  | exact ⟨rfl,hb1.trans (hb2.mono hb1.size)⟩
theorem Tryz.tokInfo0:(Tryz.prog.info? 231).map (fun i=>(i.zero,i.size,i.bytes))=some (some (.agg #[.int .i64 0,.string ⟨#[]⟩,.int .i64 0]),3,32):=by kernel_rfl
theorem Tryz.rY:qB Tryz.prog 222 231 3:=by
 obtain ⟨i0,hi,hz0,hz1,hz2⟩:=info_parts Tryz.tokInfo0;exact ⟨Tryz.underlying222,by decide,i0,_,hi,hz0,hz1,by omega,rfl⟩
theorem rdK {ok:Nat→Prop} {w:World} (x:Tk) (kk:Int) (hk:kk=x.1) (h:x.2.1.length≤maxLen):RdD ok w (.agg #[.int .i64 kk,.string ⟨x.2.1.toArray⟩,.int .i64 x.2.2]) (.agg (D.cells (enK x))):=by
 obtain ⟨k,s,n⟩:=x;subst hk;show RdD ok w _ (.agg [.int .i64 k,.str s,.int .i64 n]);refine .agg _ _ rfl (fun j v c hv hc=>?_) fun j v c hv hc=>?_
 ·match j,hv,hc with
  | 0,hv,hc=>simp at hv hc;subst hv;subst hc;exact .int _ _
  | 1,hv,hc=>simp at hv hc;subst hv;subst hc;exact .str _ h
  | 2,hv,hc=>simp at hv hc;subst hv;subst hc;exact .int _ _
  | j+3,hv,_=>simp at hv
 ·match j,hv,hc with
  | 0,hv,hc=>simp at hv hc;subst hv;subst hc;exact ⟨rfl,rfl⟩
  | 1,hv,hc=>simp at hv hc;subst hv;subst hc;exact ⟨rfl,rfl⟩
  | 2,hv,hc=>simp at hv hc;subst hv;subst hc;exact ⟨rfl,rfl⟩
  | j+3,hv,_=>simp at hv
set_option maxHeartbeats 1000000 in
set_option maxRecDepth 100000 in
theorem Tryz.ahd {B ob sb:Nat} {w:World} {s:Str} {vo:Value} {ds:List D} (hs:s.length≤16384) (ho:w.heap[ob]?=some (.cells #[vo] 222 (0,0))) (hsb:w.heap[sb]?=some (.cells #[.string ⟨s.toArray⟩] 9 (0,0)))
  (hR:bV B 231 3 w vo ds) (hob:ob<B) (hsB:sb<B) (hB:B≤w.heap.size) (hne:ob≠sb) (hds:ds.length≤1000000) (k i j:Nat) (hij:i≤j) (hj:j≤s.length) :
  Calls Tryz.prog 241 #[.int .i64 k,.int .i64 i,.int .i64 j,.pointer (some ⟨ob,0,none⟩),.pointer (some ⟨sb,0,none⟩)] w fun e w'=>e = .returned (.tuple #[])∧∃ vo',w'.heap[ob]?=some (.cells #[vo'] 222 (0,0))∧bV B 231 3 w' vo' (ds++[enK (k,(s.drop i).take (j-i),i)])∧Kp B ob w w':=by
 have hsl:=fun w=>str_slice (P:=Tryz.prog) Tryz.underlying9 hij hj w
 have hlen:((s.drop i).take (j-i)).length≤maxLen:=by simp only [List.length_take,List.length_drop,maxLen];omega
 generalize (s.drop i).take (j-i)=t at hsl hlen
 go_enter Tryz.func241,Tryz.ntmps241
 obtain ⟨av,cv,rfl⟩:=hR.shape;obtain ⟨r1,r2,r3⟩:=hR.aed hB (Nat.le_refl _) (fun _ _ _=>rfl) _ _ (rdK (k,t,i) k rfl hlen) (w.alloc (.cells #[.int .i64 k,.string ⟨t.toArray⟩,.int .i64 i] 231)).drew rfl;have hlo:ob<w.heap.size:=by omega
 have yo:=(World.grownBy_alloc w (.cells #[.int .i64 k,.string ⟨t.toArray⟩,.int .i64 i] 231) none).block ob hlo (by simp) |>.trans ho;have c0:w.cell? ⟨ob,0,none⟩=some (.slice av ds.length cv):=by simp [World.cell?,ho]
 have c1:(w.alloc (.cells #[.int .i64 k,.string ⟨t.toArray⟩,.int .i64 i] 231)).cell? ⟨ob,0,none⟩=some (.slice av ds.length cv):=by simp [World.cell?,yo]
 have c2:w.cell? ⟨sb,0,none⟩=some (.string ⟨s.toArray⟩):=by simp [World.cell?,hsb]
 replace hR:=hid hR
 replace r1:=hid r1
 replace r3:=hid r3
 go_region_law (first
  | (refine uX rfl _ _ _ rfl Tryz.rY rfl r1.out _ _ rfl (enK (k,t,i)) _ rfl r2 rfl r3.out ?_ ?_ ?_;rotate_left 2;intro g7 c7 w7 hr7 hg7;have y7:=Eq.trans (r1.out.far hg7 hob (by simp;omega)) yo;have b7:w7.cell? ⟨ob,0,none⟩=some (.slice av ds.length cv):=(by simp [World.cell?,y7]);have f7:w7.frozen? ⟨ob,0,none⟩=false:=(by simp [World.frozen?,y7]);replace y7:=hid y7;replace hr7:=hid hr7;rotate_left;omega;simp;omega))
 all_goals
  have hK:Kp B ob w w7:=(((Kp.refl B ob w).alloc hB _).drew).trans (Kp.grown hg7 (fun k hk=>(r1.out.lt k hk).1) (by simp;omega));exact bodyPost_end (results_none rfl _ _ _) rfl ⟨rfl,_,bC 0 _ y7.out,hr7.out.keep (by simp [World.setCell]) (fun b hb _=>aA w7 _ _ (by simp;omega)),Kp.setCell (p:=⟨ob,0,none⟩) hK (.inl rfl) _⟩
end Go.Proofs
namespace Go.Proofs
open Go.RowKit Go.Shelf
def Tryz.lays137_ren:Go.Shelf.Ren:=⟨fun | 137=>50 | 217=>98 | 266=>163 | n=>n,fun | 9=>9 | 5=>5 | 3=>3 | n=>n,fun | n=>n⟩
theorem Tryz.lays137:Go.Proofs.Lays.n137 Tryz.prog Tryz.lays137_ren:={
 mixed:=by kernel_rfl
 f137:=Tryz.func50.trans (congrArg some (by kernel_rfl))
 f217:=Tryz.func98.trans (congrArg some (by kernel_rfl))
 f266:=Tryz.func163.trans (congrArg some (by kernel_rfl))
 t3:=Tryz.underlying3
 a3:=Tryz.isAgg3
 z3:=Tryz.sizeOf3
 v3:=Tryz.zeroValue3
 t5:=Tryz.underlying5
 a5:=Tryz.isAgg5
 z5:=Tryz.sizeOf5
 v5:=Tryz.zeroValue5
 t9:=Tryz.underlying9
 a9:=Tryz.isAgg9
 z9:=Tryz.sizeOf9
 v9:=Tryz.zeroValue9 }
theorem Tryz.indexB (s:List UInt8) (c:UInt8) (w:World):Calls Tryz.prog 50 #[.string ⟨s.toArray⟩,.int .u8 c.toNat] w fun e w'=>e = .returned (.int .i64 (Lib.indexByte s c))∧w'=w:=by
 refine (Any.strings_IndexByte Tryz.lays137 ⟨s.toArray⟩ c.toNat w).mono ?_;rintro e w' ⟨rfl,rfl⟩;refine ⟨?_,rfl⟩;have:((c.toNat:Int)).toNat.toUInt8=c:=by simp
 rw [this]
end Go.Proofs
namespace Go.Proofs
open Go Go.RowKit Go.Shelf Go.Abs Go.Own Go.Proofs.YtpmapognbdiahaaGreatDoor
theorem X3 {c:UInt8}:decide (0≤Lib.indexByte [40,41,44,46] c)=qE c:=by
 by_cases h0:c=40
 ·subst h0;rfl
 by_cases h1:c=41
 ·subst h1;rfl
 by_cases h2:c=44
 ·subst h2;rfl
 by_cases h3:c=46
 ·subst h3;rfl
 have e:∀ n:UInt8,c≠n→(n==c)=false:=fun n h=>by simpa using fun e=>h e.symm
 have n:qE c=false:=by simp [qE,h0,h1,h2,h3]
 rw [n,Lib.indexByte,e 40 h0,Lib.indexByte,e 41 h1,Lib.indexByte,e 44 h2,Lib.indexByte,e 46 h3];rfl
structure Tryz.LxS (w:World) (s:Str) (out:List Tk) (vo:Value) (W:World):Prop where
 src:W.heap[w.heap.size]?=some (.cells #[.string ⟨s.toArray⟩] 9 (0,0))
 box:W.heap[w.heap.size+1]?=some (.cells #[vo] 222 (0,0))
 row:bV (w.heap.size+2) 231 3 W vo (out.map enK)
 below:Below w.heap.size w W
section
variable {w W W':World} {s:Str} {out:List Tk} {vo:Value} (h:Tryz.LxS w s out vo W)
include h
theorem Tryz.LxS.size:w.heap.size+2≤W.heap.size:=(Array.getElem?_eq_some_iff.1 h.box).1
theorem Tryz.LxS.keep (hb:Below W.heap.size W W'):Tryz.LxS w s out vo W':=
 ⟨(hb.block _ (by have:=h.size;omega)).trans h.src,(hb.block _ h.size).trans h.box,h.row.keep hb.size (fun b _ hb2=>hb.block b hb2),h.below.trans (hb.mono h.below.size)⟩
theorem Tryz.LxS.cell:W.cell? ⟨w.heap.size,0,none⟩=some (.string ⟨s.toArray⟩):=by simp [World.cell?,h.src]
theorem Tryz.LxS.add (hs:s.length≤16384) (hl:out.length≤16384) (k i j:Nat) (hij:i≤j) (hj:j≤s.length) :
  Calls Tryz.prog 241 #[.int .i64 k,.int .i64 i,.int .i64 j,.pointer (some ⟨w.heap.size+1,0,none⟩),.pointer (some ⟨w.heap.size,0,none⟩)] W fun e W'=>e = .returned (.tuple #[])∧∃ vo',Tryz.LxS w s (out++[(k,(s.drop i).take (j-i),i)]) vo' W':=by
 refine (Tryz.ahd hs h.box h.src h.row (by omega) (by omega) h.size (by omega) (by simp;omega) k i j hij hj).mono ?_;rintro e W' ⟨rfl,vo',h1,h2,h3⟩;exact ⟨rfl,vo',(h3.block _ (by omega) (by omega)).trans h.src,h1,by rw [List.map_append];exact h2,h.below.trans (h3.below' (by omega) (by omega))⟩
end
set_option maxHeartbeats 1000000 in
set_option maxRecDepth 100000 in
theorem Tryz.ahi (s:Str) (hs:s.length≤16384) (w:World) (hW:Tryz.Words w):Calls Tryz.prog 165 #[.string ⟨s.toArray⟩] w (qC s w):=by
 have hmf:∀ (fn:Fn) (first cap:Array Value) (w:World),(Instr.makeFunc fn first cap).run Tryz.prog w = .ok (.func fn first cap) w:=fun _ _ _ _=>rfl
 have hE1:∀ args w,(callFunc 244 args).run Tryz.prog w = .ok (.enter 244 args) w:=enters_of Tryz.func244 (by kernel_rfl) rfl;have hE2:∀ args w,(callFunc 245 args).run Tryz.prog w = .ok (.enter 245 args) w:=enters_of Tryz.func245 (by kernel_rfl) rfl;have hg:2<w.heap.size:=World.block_lt_of_cell? w _ hW.1
 go_enter Tryz.func165,Tryz.ntmps165
 have hE3:∀ args w,(callFunc 241 args).run Tryz.prog w = .ok (.enter 241 args) w:=enters_of Tryz.func241 (by kernel_rfl) rfl;have S0:Tryz.LxS w s [] (.slice none 0 0) ((w.alloc (.cells #[.string ⟨s.toArray⟩] 9)).alloc (.cells #[.slice none 0 0] 222)):=by
  refine ⟨(heap_alloc_old _ _ (by simp)).trans (heap_alloc_new w _),?_,.nil,((Below.refl _ w).alloc (Nat.le_refl _) _).alloc (by simp) _⟩;have:=heap_alloc_new (w.alloc (.cells #[.string ⟨s.toArray⟩] 9)) (.cells #[.slice none 0 0] 222)
  rwa [World.size_alloc] at this
 go_wp2_with fail
 go_loopw [7] (fun v wr=>∃ (i:Nat) (out:List Tk) (vo:Value),v = .int .i64 i∧Hid (eU s i out)∧Hid (Tryz.LxS w s out vo wr)) (fun v _=>s.length-(intOf v).toNat)
 case atStart=>exact ⟨0,[],_,rfl,hid (eU.start s),hid S0⟩
 case round=>
  obtain ⟨i,out,vo,rfl,hinv,hS⟩:=hrel;have hli:=hinv.out.1;have hlo:=hinv.out.2.1;have g0:=hS.out.cell;by_cases hlt:i<s.length
  ·have hix:=fun w=>dA (P:=Tryz.prog) Tryz.underlying9 hlt w
   obtain ⟨c,hc⟩:∃ c,s[i]=c:=⟨_,rfl⟩
   rw [hc] at hix;have HL:=hid hlt;by_cases hb:eP c=true
   ·have hnx:=hid (hinv.out.blank hlt (by rw [hc];exact hb))
    go_wp2_with (go_at_call 242;refine (Tryz.qh c wr).mono ?_;rintro e w1 ⟨rfl,hb1⟩;rw [hb];have S1:=hid (hS.out.keep hb1))
    go_roundw
    case rel=>exact ⟨i+1,out,vo,by go_num,hnx,S1⟩
    case measure=>have:=HL.out;simp [intOf];omega
   ·have hb:eP c=false:=(by simpa using hb);by_cases hh:c=35
    ·have hnx:=hid (hinv.out.hash hlt (by rw [hc];exact hb) (by rw [hc];exact hh));have hsk:bQ (· != 10) s i=bQ (· != 10) s (i+1):=jM hlt (by rw [hc,hh];rfl);have hle:=xQ (p:=(· != 10)) (s:=s) (i:=i+1) hlt;have hc35:(c.toNat:Int)=35:=(by rw [hh];rfl);have cB:=Tryz.qh c wr;rw [hc35,hb] at cB
     replace cB:=hid cB
     go_wp2_with (first
      | (go_at_call 242;refine cB.out.mono ?_;rintro e w1 ⟨rfl,hb1⟩;have S1:=hid (hS.out.keep hb1);have g1:=S1.out.cell)
      | (go_at_call 243;refine (Tryz.Kr _ _ Tryz.aeB hE1 s hs i hli w1).mono ?_;rintro e w2 ⟨rfl,hb2⟩;rw [hsk];have S2:=hid (S1.out.keep hb2)))
     go_roundw
     case rel=>exact ⟨_,out,vo,rfl,hnx,S2⟩
     case measure=>have:=HL.out;simp [intOf];omega
    ·have hc35:(c.toNat:Int)≠35:=fun e=>hh (by rw [← UInt8.toNat_inj];have:(35:UInt8).toNat=35:=rfl;omega)
     by_cases hr:dB c=true
     ·obtain ⟨E,hE⟩:∃ E,bQ dB s i=E:=⟨_,rfl⟩
      have hle:=xQ (p:=dB) (s:=s) (i:=i) hli;rw [hE] at hle;have hsl:=fun w=>str_slice (P:=Tryz.prog) Tryz.underlying9 hle.1 hle.2 w
      obtain ⟨run,hrun⟩:∃ run,(s.drop i).take (E-i)=run:=⟨_,rfl⟩
      have hbad:=hinv.out.RN hlt (by rw [hc];exact hr);have hgo:=hinv.out.run hlt (by rw [hc];exact hr);rw [hE,hrun] at hbad hgo;have hrl:run.length≤16384:=(by rw [← hrun];simp only [List.length_take,List.length_drop];omega);have hadd:=hid (fun W' (h:Tryz.LxS w s out vo W') k=>h.add hs (by omega) k i E hle.1 hle.2);rw [hrun] at hadd hsl;by_cases hk:dG run=0
      ·have hbad:=hid (hbad hk)
       go_wp2_with (first
        | (go_at_call 242;refine (Tryz.qh c wr).mono ?_;rintro e w1 ⟨rfl,hb1⟩;rw [hb];have S1:=hid (hS.out.keep hb1);have g1:=S1.out.cell)
        | (go_at_call 245;refine (Tryz.CP c w1).mono ?_;rintro e w2 ⟨rfl,hb2⟩;rw [hr];have S2:=hid (S1.out.keep hb2);have g2:=S2.out.cell)
        | (go_at_call 243;refine (Tryz.Kr _ _ Tryz.CP hE2 s hs i hli w2).mono ?_;rintro e w3 ⟨rfl,hb3⟩;rw [hE];have S3:=hid (S2.out.keep hb3);have g3:=S3.out.cell)
        | (go_at_call 246;refine (Tryz.TR run hrl w3 (hW.keep S3.out.below hg)).mono ?_;rintro e w4 ⟨rfl,hb4⟩;rw [hk];have S4:=hid (S3.out.keep hb4);have g4:=S4.out.cell))
       go_ret3
       exact .inr ⟨hbad.out,_,4,by decide,rfl,S4.out.below⟩
      ·obtain ⟨hlt2,hnx⟩:=hgo hk
       replace hnx:=hid hnx
       have hk0:(dG run:Int)≠0:=(by omega);obtain ⟨kk,hkk⟩:∃ kk,dG run=kk:=⟨_,rfl⟩
       rw [hkk] at hk0 hnx
       go_wp2_with (first
        | (go_at_call 242;refine (Tryz.qh c wr).mono ?_;rintro e w1 ⟨rfl,hb1⟩;rw [hb];have S1:=hid (hS.out.keep hb1);have g1:=S1.out.cell)
        | (go_at_call 245;refine (Tryz.CP c w1).mono ?_;rintro e w2 ⟨rfl,hb2⟩;rw [hr];have S2:=hid (S1.out.keep hb2);have g2:=S2.out.cell)
        | (go_at_call 243;refine (Tryz.Kr _ _ Tryz.CP hE2 s hs i hli w2).mono ?_;rintro e w3 ⟨rfl,hb3⟩;rw [hE];have S3:=hid (S2.out.keep hb3);have g3:=S3.out.cell)
        | (go_at_call 246;refine (Tryz.TR run hrl w3 (hW.keep S3.out.below hg)).mono ?_;rintro e w4 ⟨rfl,hb4⟩;rw [hkk];have S4:=hid (S3.out.keep hb4);have g4:=S4.out.cell)
        | (go_at_call 241;refine (hadd.out w4 S4.out kk).mono ?_;rintro e w5 ⟨rfl,vo5,hS5⟩;replace hS5:=hid hS5))
       go_roundw
       case rel=>exact ⟨E,_,vo5,rfl,hnx,hS5⟩
       case measure=>have:=HL.out;simp [intOf];omega
     ·have hr:dB c=false:=(by simpa using hr);have hadd:=hid (fun W' (h:Tryz.LxS w s out vo W')=>h.add hs (by omega) 4 i (i+1) (Nat.le_succ i) hlt);have h1:(s.drop i).take (i+1-i)=[c]:=(by rw [List.drop_eq_getElem_cons hlt,hc,Nat.add_sub_cancel_left];rfl);rw [h1] at hadd;have hidx:=X3 (c:=c);by_cases hsy:qE c=true
      ·have hnx:=hid (hinv.out.sym hlt (by rw [hc];exact hb) (by rw [hc];exact hh) (by rw [hc];exact hr) (by rw [hc];exact hsy));rw [hc] at hnx;rw [hsy] at hidx;have hix0:0≤Lib.indexByte [40,41,44,46] c:=(by simpa using hidx);obtain ⟨ii,hii⟩:∃ ii,Lib.indexByte [40,41,44,46] c=ii:=⟨_,rfl⟩
       rw [hii] at hix0;clear hidx
       go_wp2_with (first
        | (go_at_call 242;refine (Tryz.qh c wr).mono ?_;rintro e w1 ⟨rfl,hb1⟩;rw [hb];have S1:=hid (hS.out.keep hb1);have g1:=S1.out.cell)
        | (go_at_call 245;refine (Tryz.CP c w1).mono ?_;rintro e w2 ⟨rfl,hb2⟩;rw [hr];have S2:=hid (S1.out.keep hb2);have g2:=S2.out.cell)
        | (go_at_call 50;refine (Tryz.indexB [40,41,44,46] c w2).mono ?_;rintro e w3 ⟨rfl,rfl⟩;rw [hii])
        | (go_at_call 241;refine (hadd.out _ S2.out).mono ?_;rintro e w5 ⟨rfl,vo5,hS5⟩;replace hS5:=hid hS5))
       go_roundw
       case rel=>exact ⟨i+1,_,vo5,by go_num,hnx,hS5⟩
       case measure=>have:=HL.out;simp [intOf];omega
      ·have hsy:qE c=false:=(by simpa using hsy);have hbad:=hid (hinv.out.bad hlt (by rw [hc];exact hb) (by rw [hc];exact hh) (by rw [hc];exact hr) (by rw [hc];exact hsy));rw [hsy] at hidx;have hix0:Lib.indexByte [40,41,44,46] c<0:=(by simpa using hidx);obtain ⟨ii,hii⟩:∃ ii,Lib.indexByte [40,41,44,46] c=ii:=⟨_,rfl⟩
       rw [hii] at hix0;clear hidx
       go_wp2_with (first
        | (go_at_call 242;refine (Tryz.qh c wr).mono ?_;rintro e w1 ⟨rfl,hb1⟩;rw [hb];have S1:=hid (hS.out.keep hb1);have g1:=S1.out.cell)
        | (go_at_call 245;refine (Tryz.CP c w1).mono ?_;rintro e w2 ⟨rfl,hb2⟩;rw [hr];have S2:=hid (S1.out.keep hb2);have g2:=S2.out.cell)
        | (go_at_call 50;refine (Tryz.indexB [40,41,44,46] c w2).mono ?_;rintro e w3 ⟨rfl,rfl⟩;rw [hii]))
       go_ret3
       exact .inr ⟨hbad.out,_,1,by decide,rfl,S2.out.below⟩
  ·have hie:i=s.length:=(by omega);have hfin:=hid (hinv.out.fin hlt);have hadd:=hid (fun W' (h:Tryz.LxS w s out vo W')=>h.add hs (by omega) 0 s.length s.length (Nat.le_refl _) (Nat.le_refl _));rw [Nat.sub_self,List.take_zero] at hadd;subst hie
   go_wp2_with (go_at_call 241;refine (hadd.out wr hS.out).mono ?_;rintro e w5 ⟨rfl,vo5,hS5⟩;have c5:w5.cell? ⟨w.heap.size+1,0,none⟩=some vo5:=(by simp [World.cell?,hS5.box]);replace hS5:=hid hS5)
   go_ret3
   exact .inl ⟨_,_,hfin.out,rfl,(hS5.out.row.rd (by decide)).mono (fun _ _=>rfl) (fun b hb=>⟨by omega,hb.2⟩),hS5.out.below⟩
structure Tryz.Env (w:World):Prop where
 words:Tryz.Words w
 mx:∃ m,w.cell? ⟨0,0,none⟩=some (.int .i64 m)
theorem cell_lt {w:World} {p:Addr} {v:Value} (h:w.cell? p=some v):p.block<w.heap.size:=by
 unfold World.cell? at h;split at h
 ·rename_i h1;exact (Array.getElem?_eq_some_iff.1 h1).1
 ·cases h
theorem Tryz.Env.keep {w w':World} (h:Tryz.Env w) (hb:Below w.heap.size w w'):Tryz.Env w':=
 ⟨h.words.keep hb (cell_lt h.words.1),h.mx.imp fun _ hm=>(hb.cell (cell_lt hm)).trans hm⟩
def Jj (res:Option Sn) (w:World) (e:Ending) (w':World):Prop:=
 Below w.heap.size w w'∧((∃ x val,res=some x∧e = .returned (.tuple #[val,.bool true])∧RdD (fun b=>w.heap.size≤b∧b<w'.heap.size) w' val (enS x)) ∨
  (res=none∧e = .returned (.tuple #[.agg #[.string ⟨#[]⟩,.slice none 0 0,.slice none 0 0],.bool false])))
theorem below_drewN (B:Nat) (w:World) (n:Nat):Below B w (w.drewN n):=⟨rfl,rfl,rfl,Nat.le_refl _,fun _ _=>rfl⟩
theorem aX {w:World} {b:Nat} {x y z:Value} {T:TypeId} (h:w.heap[b]?=some (.cells #[x,y,z] T (0,0))) :
  w.cell? ⟨b,0,none⟩=some x∧w.cell? ⟨b,1,none⟩=some y∧w.cell? ⟨b,2,none⟩=some z∧w.frozen? ⟨b,0,none⟩=false∧w.frozen? ⟨b,1,none⟩=false∧w.frozen? ⟨b,2,none⟩=false:=by
 simp [World.cell?,World.frozen?,h]
def J3 (w:World) (b:Nat) (x y z:Value):World:=((w.setCell ⟨b,0,none⟩ x).setCell ⟨b,1,none⟩ y).setCell ⟨b,2,none⟩ z
theorem nH {w w':World} {B b:Nat} (h:Below B w w') (hb:B≤b) (x y z:Value):Below B w (J3 w' b x y z):=((h.setCell (p:=⟨b,0,none⟩) hb _).setCell (p:=⟨b,1,none⟩) hb _).setCell (p:=⟨b,2,none⟩) hb _
theorem BU (w:World) (b:Nat) (x y z:Value):(J3 w b x y z).heap.size=w.heap.size:=by simp [J3,World.setCell]
theorem nG (w:World) (b:Nat) (x y z:Value) {k:Nat} (h:k≠b):(J3 w b x y z).heap[k]?=w.heap[k]?:=(aA _ _ _ h).trans ((aA _ _ _ h).trans (aA _ _ _ h))
theorem Gu:∀ l:List Tm,qJ none l=true↔∀ k (h:k+1<l.length),¬ 0≤jD l[k] l[k+1]
 | []=>by simp [qJ]
 | [t]=>by simp [qJ,xJ]
 | t::u::l=>by
   have ih:=Gu (u::l);have e:qJ none (t::u::l)=(!decide (0≤jD t u)&&qJ none (u::l)):=rfl;rw [e,Bool.and_eq_true,ih];constructor
   ·rintro ⟨h1,h2⟩ k h;cases k with
    | zero=>simpa using h1
    | succ k=>exact h2 k (by simpa using h)
   ·intro h;exact ⟨by simpa using h 0 (by simp),fun k hk=>h (k+1) (by simpa using hk)⟩
def aeh:Option Tm→Option (List Tm)→Option Sn
 | some t,some l=>if mY (t,l)=true then some (t,l) else none
 | _,_=>none
set_option maxHeartbeats 4000000 in
set_option maxRecDepth 100000 in
theorem Tryz.ahh (s:Str) (hs:s.length≤16384) (w:World) (hW:Tryz.Env w) :
  Calls Tryz.prog 18 #[.string ⟨s.toArray⟩] w (Jj (mF s) w):=by
 obtain ⟨W0,hW0⟩:∃ W,w.alloc (.cells #[.string ⟨#[]⟩,.slice none 0 0,.slice none 0 0] 44)=W:=⟨_,rfl⟩
 have hs0:W0.heap.size=w.heap.size+1:=by rw [← hW0];simp
 have hB0:Below w.heap.size w W0:=by rw [← hW0];exact (Below.refl _ w).alloc (Nat.le_refl _) _
 have y0:W0.heap[w.heap.size]?=some (.cells #[.string ⟨#[]⟩,.slice none 0 0,.slice none 0 0] 44 (0,0)):=by rw [← hW0];exact heap_alloc_new w _
 have hW00:=hW.keep hB0;obtain ⟨m,hm⟩:=hW00.mx;have cC:=Tryz.akp ⟨s.toArray⟩ m W0 (by simp [ByteArray.size];omega) hm;rw [show (⟨s.toArray⟩:ByteArray).data.toList=s from by simp,V7] at cC;have bad:∀ w2,Below W0.heap.size W0 w2→mF s=none→Jj (mF s) w (.returned (.tuple #[.agg #[.string ⟨#[]⟩,.slice none 0 0,.slice none 0 0],.bool false])) (J3 w2 w.heap.size (.string ⟨#[]⟩) (.slice none 0 0) (.slice none 0 0)):=fun w2 hb hn=>
  ⟨nH (hB0.trans (hb.mono (by omega))) (Nat.le_refl _) _ _ _,.inr ⟨hn,rfl⟩⟩
 replace bad:=hid bad
 replace hW:=hid hW
 cases hc:wu s with
 | none=>
   have hn:mF s=none:=by rw [mF,hc]
   replace hn:=hid hn
   rw [hc] at cC
   go_enter Tryz.func18,Tryz.ntmps18
   go_wp2_with (go_at_call 51;refine cC.mono ?_;rintro e w1 ⟨rfl,n,rfl⟩;obtain ⟨a0,a1,a2,a3,a4,a5⟩:=aX (w:=W0.drewN n) y0)
   refine bodyPost_ret (v := .tuple #[.agg #[.string ⟨#[]⟩,.slice none 0 0,.slice none 0 0],.bool false]) (by simp [results,Tryz.results18,go_sem,a0,a1,a2]) rfl ?_;exact bad.out _ (below_drewN _ _ _) hn.out
 | some ab=>
   obtain ⟨a,b⟩:=ab;have hn:mF s=aeh (gQ a) (iF b):=(by rw [mF,hc];rfl);have hsl:a.length≤16384∧b.length≤16384:=by
    rcases um s with ⟨h1,_⟩ | ⟨a',b',h1,_,h3⟩
    ·rw [hc] at h1;cases h1
    ·rw [hc] at h1;cases h1;have:=congrArg List.length h3;simp at this;omega
   have hcl:=fun ts=>wJ (s:=b) (ts:=ts)
   rw [hc] at cC;have cT:=fun (W:World) (hb:Below W0.heap.size W0 W)=>Tryz.P9 a hsl.1 W (fun W' hb'=>Tryz.ahi a hsl.1 W' (hW00.keep (hb.trans (hb'.mono hb.size))).words)
   have cL:=fun (W:World) (hb:Below W0.heap.size W0 W)=>Tryz.JE b hsl.2 W (fun W' hb'=>Tryz.ahi b hsl.2 W' (hW00.keep (hb.trans (hb'.mono hb.size))).words)
   replace hn:=hid hn
   replace hcl:=hid hcl
   generalize gQ a=rT at *;generalize iF b=rL at *
   replace cT:=hid cT
   replace cL:=hid cL
   go_enter Tryz.func18,Tryz.ntmps18
   go_wp2_with (first
    | (go_at_call 51;refine cC.mono ?_;rintro e w1 ⟨rfl,n,rfl⟩;have hB1:=hid (below_drewN W0.heap.size W0 n))
    | (go_at_call 52;refine (cT.out _ hB1.out).mono ?_;rintro e w2 (⟨t,val,a2,rfl,rfl,hd2,hb2⟩ | ⟨rfl,a2,e2,he2,rfl,hb2⟩)<;>refine Hid.out ?_))
   ·obtain ⟨n0,l0⟩:=t;obtain ⟨u,rfl,hu⟩:=rdt hd2;obtain ⟨a3,c3,rfl,_⟩:=rdl hu;obtain ⟨W3,hW3⟩:∃ W,w2.alloc (.cells #[.string ⟨n0.toArray⟩,.slice a3 l0.length c3] 42)=W:=⟨_,rfl⟩
    have hs3:W3.heap.size=w2.heap.size+1:=(by rw [← hW3];simp);have hB2:=hB1.out.trans (hb2.mono hB1.out.size);have hB23:Below w2.heap.size w2 W3:=(by rw [← hW3];exact (Below.refl _ w2).alloc (Nat.le_refl _) _);have hB3:=hid (hB2.trans (hB23.mono hB2.size));have x3:W3.heap[w2.heap.size]?=some (.cells #[.string ⟨n0.toArray⟩,.slice a3 l0.length c3] 42 (0,0)):=by rw [← hW3];exact heap_alloc_new w2 _
    replace hd2:=hid hd2
    refine hid ?_
    go_wp2_with (go_at_call 53;refine (cL.out _ hB3.out).mono ?_;rintro e w4 (⟨l,vl,a4,rfl,rfl,hd4,hb4⟩ | ⟨rfl,a4,e4,he4,rfl,hb4⟩)<;>refine Hid.out ?_)
    ·obtain ⟨av,cv,rfl,hcs⟩:=rdl hd4;have hB4:=hid (hB3.out.trans (hb4.mono hB3.out.size));have x4:=(hb4.block w2.heap.size (by omega)).trans x3;have hln:=hcl.out l rfl;have hr4:=hid (hd2.out.mono (fun b hb=>(hb4.block b (by omega)).trans (hB23.block b hb.2)) (fun b hb=>(⟨by have:=hb.1;have:=hB1.out.size;omega,by have:=hb4.size;omega⟩:w.heap.size+1≤b∧b<w4.heap.size)));have hHC:=hid hcs;have hd4:=hid hd4;obtain ⟨a0,a1,a2,a3',a5,a6⟩:=aX ((hB4.out.block w.heap.size (by omega)).trans y0);obtain ⟨x40,x41,_,_⟩:=aC x4;have hz4:=hid (Array.getElem?_eq_some_iff.1 x4).1;have cG:=Tryz.ahz (.mk n0 l0) w4 _ (hr4.out.mono (fun _ _=>rfl) (fun _ h=>h.2));have cH:=fun (W:World) (hb:Below w4.heap.size w4 W)=>Tryz.ahf l (by omega) W _ (aO hb (hd4.out.mono (fun _ _=>rfl) (fun _ h=>h.2)))
     have hcan:mY (.mk n0 l0,l)=(bH false 4 (.mk n0 l0)&&(l.all (bH false 4)&&qJ none l)):=rfl
     replace hcan:=hid hcan
     replace cH:=hid cH
     clear hd2 hu;generalize bH false 4 (.mk n0 l0)=bG at cG hcan;cases bG with
     | false=>
       replace hn:=hid (hn.out.trans (if_neg (by rw [hcan.out];simp)))
       refine hid ?_
       go_wp2_with (go_at_call 54;refine cG.mono ?_;rintro e w5 ⟨rfl,hb5⟩;have hB5:=hid (hB4.out.trans (hb5.mono hB4.out.size));obtain ⟨a0,a1,a2,a3,a5,a6⟩:=aX ((hB5.out.block w.heap.size (by omega)).trans y0))
       refine bodyPost_ret (v := .tuple #[.agg #[.string ⟨#[]⟩,.slice none 0 0,.slice none 0 0],.bool false]) (by simp [results,Tryz.results18,go_sem,a0,a1,a2]) rfl ?_;exact bad.out _ hB5.out hn.out
     | true=>
       rw [Bool.true_and] at hcan;have hA:=cH.out;cases hall:l.all (bH false 4) with
       | false=>
         simp only [hall] at hA hcan
         replace hn:=hid (hn.out.trans (if_neg (by rw [hcan.out];simp)))
         replace hA:=hid hA
         refine hid ?_
         go_wp2_with (first
          | (go_at_call 54;refine cG.mono ?_;rintro e w5 ⟨rfl,hb5⟩)
          | (go_at_call 55;refine (hA.out _ hb5).mono ?_;rintro e w6 ⟨rfl,hb6⟩;have hB5:=hid (hB4.out.trans ((hb5.trans (hb6.mono hb5.size)).mono hB4.out.size));obtain ⟨a0,a1,a2,a3,a5,a6⟩:=aX ((hB5.out.block w.heap.size (by omega)).trans y0)))
         refine bodyPost_ret (v := .tuple #[.agg #[.string ⟨#[]⟩,.slice none 0 0,.slice none 0 0],.bool false]) (by simp [results,Tryz.results18,go_sem,a0,a1,a2]) rfl ?_;exact bad.out _ hB5.out hn.out
       | true=>
         simp only [hall] at hA;rw [hall,Bool.true_and] at hcan;have hn:=hid (hn.out.trans (show aeh (some (Tm.mk n0 l0)) (some l)=if qJ none l=true then some (Tm.mk n0 l0,l) else none from by rw [aeh,hcan.out]))
         replace hA:=hid hA
         replace hall:=hid hall
         refine hid ?_
         go_wp2_with (first
          | (go_at_call 54;refine cG.mono ?_;rintro e w5 ⟨rfl,hb5⟩)
          | (go_at_call 55;refine (hA.out _ hb5).mono ?_;rintro e w6 ⟨rfl,hb6⟩;have hB6:=hid (hb5.trans (hb6.mono hb5.size))))
         go_loopw [53] (fun vi wr=>∃ i:Nat,vi = .int .i64 i∧i≤l.length∧Hid (∀ k (h:k+1<l.length),k+1<i→¬ 0≤jD l[k] l[k+1])∧Hid (Below w4.heap.size w4 wr)) (fun vi _=>l.length-(intOf vi).toNat)
         case atStart=>exact ⟨0,rfl,Nat.zero_le _,hid (fun k h h0=>absurd h0 (Nat.not_lt_zero _)),hB6⟩
         case round=>
          obtain ⟨i,rfl,hi,hasc,hB⟩:=hrel;clear hB6 hb5 hb6;by_cases hlt:i<l.length
          ·obtain ⟨b,o,rfl,hb,hlc,hcm,hcs⟩:=hHC.out.resolve_left (fun h=>by rw [h] at hlt;simp at hlt);simp only [maxLen] at hcm;cases i with
           | zero=>
             go_wp2_with fail
             go_region
             go_wp2_with fail
             go_roundw
             case rel=>exact ⟨1,rfl,by omega,hid (fun k h h0=>absurd h0 (by omega)),hid hB.out.drew⟩
             case measure=>simp [intOf];omega
           | succ k=>
             have hk:k<l.length:=(by omega);obtain ⟨p0,p1,c0,c1,hr0⟩:=hcs k hk;obtain ⟨q0,q1,d0,d1,hr1⟩:=hcs (k+1) hlt;have c0:=(hB.out.cell (p:=⟨b,o+k*2,none⟩) hb.2).trans c0;have c1:=(hB.out.cell (p:=⟨b,o+(k*2+1),none⟩) hb.2).trans c1;have d0:=(hB.out.cell (p:=⟨b,o+(k+1)*2,none⟩) hb.2).trans d0;have d1:=(hB.out.cell (p:=⟨b,o+((k+1)*2+1),none⟩) hb.2).trans d1;rw [← Nat.add_assoc] at c1 d1;have hBd:Below w4.heap.size w4 wr.drew:=hB.out.drew;have cV:=hid (Tryz.akq l[k] l[k+1] wr.drew _ _ (aO hBd (hr0.mono (fun _ _=>rfl) (fun _ h=>h.2))) (aO hBd (hr1.mono (fun _ _=>rfl) (fun _ h=>h.2))));have hwr:IntKind.i64.wrap (((k+1:Nat):Int)-1)=(k:Int):=(by rw [IntKind.wrap_i64];omega);have hwr2:IntKind.i64.wrap ((k:Int)+1-1)=(k:Int):=(by rw [IntKind.wrap_i64];omega);have hbl:Hid (b<wr.drew.heap.size):=hid (Nat.lt_of_lt_of_le hb.2 hB.out.size);have hwr3:IntKind.i64.wrap (k:Int)=(k:Int):=(by rw [IntKind.wrap_i64];omega);have hk0:(0:Int)≤(k:Int):=(by omega);have hk1:(k:Int)<(l.length:Int):=(by omega);have hk2:(0:Int)≤(k:Int)+1:=(by omega);have hk3:(k:Int)+1<(l.length:Int):=(by omega);clear hr0 hr1 hcs hBd
             replace y0:=hid y0
             replace x4:=hid x4
             clear x3 hB2 hB23 hm cC cT cL hcl hc hb2 hW hW00 hb4 hd4 hr4 hHC cH hA hall hcan a0 a1 a2 a3' a5 a6 x40 x41
             go_wp2_with fail
             go_region_held3 (fun w'=>w'.cell? ⟨b,o+k*2,none⟩=some p0∧w'.cell? ⟨b,o+k*2+1,none⟩=some p1∧w'.cell? ⟨b,o+(k+1)*2,none⟩=some q0∧w'.cell? ⟨b,o+(k+1)*2+1,none⟩=some q1) (refine ⟨?_,?_,?_,?_⟩<;>assumption) (first | (go_at_call 47;refine cV.out.mono ?_;rintro e w7 ⟨rfl,hb7⟩;have s0:=(hb7.cell (p:=⟨b,o+k*2,none⟩) hbl.out).trans c0;have s1:=(hb7.cell (p:=⟨b,o+k*2+1,none⟩) hbl.out).trans c1;have s2:=(hb7.cell (p:=⟨b,o+(k+1)*2,none⟩) hbl.out).trans d0;have s3:=(hb7.cell (p:=⟨b,o+(k+1)*2+1,none⟩) hbl.out).trans d1;replace hb7:=hid hb7))
             by_cases hge:0≤jD l[k] l[k+1]
             ·have hno:mF s=none:=hn.out.trans (if_neg (fun h=>(Gu l).1 h k hlt hge))
              replace hno:=hid hno
              have hB9:=hid (hB4.out.trans ((hB.out.drew.trans (hb7.out.mono (by have:=hB.out.size;simpa using this))).mono hB4.out.size));obtain ⟨a0,a1,a2,a3',a5,a6⟩:=aX ((hB9.out.block w.heap.size (by omega)).trans y0.out)
              go_wp2_with fail
              refine bodyPost_ret (v := .tuple #[.agg #[.string ⟨#[]⟩,.slice none 0 0,.slice none 0 0],.bool false]) (by simp [results,Tryz.results18,go_sem,a0,a1,a2]) rfl ?_;exact bad.out _ hB9.out hno.out
             ·have hge':=hid hge
              go_wp2_with fail
              go_roundw
              case rel=>
               refine ⟨k+1+1,by go_num,hlt,hid (fun j h h0=>?_),hid (hB.out.drew.trans (hb7.out.mono (by have:=hB.out.size;simpa using this)))⟩;rcases Nat.lt_or_ge j k with hj | hj
               ·have:=hasc.out j h (by omega);omega
               ·obtain rfl:j=k:=by omega
                exact hge'.out
              case measure=>simp [intOf];omega
          ·obtain rfl:i=l.length:=by omega
           have hbw:=hB.out.size;obtain ⟨a0,a1,a2,a3',a5,a6⟩:=aX ((hB.out.block w.heap.size (by have:=hB4.out.size;omega)).trans ((hB4.out.block w.heap.size (by omega)).trans y0));obtain ⟨x50,x51,_,_⟩:=aC ((hB.out.block w2.heap.size hz4.out).trans x4)
           go_wp2_with fail
           have hyes:=hid (hn.out.trans (if_pos ((Gu l).2 (fun k h=>by have:=hasc.out k h h;omega))));have hBw:=hid (hB4.out.trans (hB.out.mono hB4.out.size));refine bodyPost_ret (v := .tuple #[.agg #[.string ⟨n0.toArray⟩,.slice a3 l0.length c3,.slice av l.length cv],.bool true]) (by simp [results,Tryz.results18,go_sem,a0,a1,a2]) rfl ?_;refine ⟨nH (hB0.trans (hBw.out.mono (by omega))) (Nat.le_refl _) _ _ _,.inl ⟨(.mk n0 l0,l),_,hyes.out,rfl,?_⟩⟩;have hz:=hB.out.size;have h3:=hB3.out.size;refine aee (hr4.out.mono (fun b hb=>(nG _ _ _ _ _ (by have:=hb.1;omega)).trans (hB.out.block b hb.2)) (fun b hb=>⟨by have:=hb.1;omega,by have:=hb.2;simp [World.setCell];omega⟩)) ?_;exact hd4.out.mono (fun b hb=>(nG _ _ _ _ _ (by have:=hb.1;omega)).trans (hB.out.block b hb.2)) (fun b hb=>⟨by have:=hb.1;omega,by have:=hb.2;simp [World.setCell];omega⟩)
    ·have hB4:=hid (hB3.out.trans (hb4.mono hB3.out.size));obtain ⟨a0,a1,a2,a3,a5,a6⟩:=aX ((hB4.out.block w.heap.size (by omega)).trans y0);have he4':(e4==0)=false:=(by simpa using he4);refine hid ?_
     go_wp2_with fail
     refine bodyPost_ret (v := .tuple #[.agg #[.string ⟨#[]⟩,.slice none 0 0,.slice none 0 0],.bool false]) (by simp [results,Tryz.results18,go_sem,a0,a1,a2]) rfl ?_;exact bad.out _ hB4.out hn.out
   ·have x3:=heap_alloc_new w2 (.cells #[.string ⟨#[]⟩,.slice none 0 0] 42);have hB2:=hid (hB1.out.trans (hb2.mono hB1.out.size));have hB3:=hid (hB2.out.alloc hB2.out.size (.cells #[.string ⟨#[]⟩,.slice none 0 0] 42));have he2':(e2==0)=false:=(by simpa using he2);refine hid ?_
    go_wp2_with (go_at_call 53;refine (cL.out _ hB3.out).mono ?_;rintro e w4 (⟨l,vl,a4,rfl,rfl,hd4,hb4⟩ | ⟨rfl,a4,e4,he4,rfl,hb4⟩)<;>(have hB4:=hid (hB3.out.trans (hb4.mono hB3.out.size));obtain ⟨a0,a1,a2,a3,a5,a6⟩:=aX ((hB4.out.block w.heap.size (by omega)).trans y0)))
    all_goals
     refine bodyPost_ret (v := .tuple #[.agg #[.string ⟨#[]⟩,.slice none 0 0,.slice none 0 0],.bool false]) (by simp [results,Tryz.results18,go_sem,a0,a1,a2]) rfl ?_;exact bad.out _ hB4.out hn.out
end Go.Proofs
namespace Go.Proofs
open Go Go.RowKit Go.Shelf Go.Abs Go.Own Go.Proofs.YtpmapognbdiahaaGreatDoor
attribute [local go_sem] Oper.semAt_some
def mM (r:Str):Str:=r.takeWhile (· != 10)++if 10∈r then [10] else []
def jE (r:Str):Str:=(r.dropWhile (· != 10)).tail
def yK (bS:Nat) (w:World):Nat:=match w.cell? ⟨bS,0,none⟩ with | some (.string s)=>s.size | _=>0
theorem zF:∀ r:Str,(10∉r∧Lib.indexByte r 10=-1)∨(10∈r∧∃ i:Nat,Lib.indexByte r 10=i∧i<r.length∧r.takeWhile (· != 10)=r.take i∧r.dropWhile (· != 10)=r.drop i∧r[i]?=some 10)
 | [] => .inl ⟨by simp,rfl⟩
 | c::r=>by
   rw [Lib.indexByte];by_cases hc:c=10
   ·subst hc;exact .inr ⟨by simp,0,by simp,by simp,by simp,by simp,rfl⟩
   ·rcases zF r with ⟨h1,h2⟩ | ⟨h1,i,h2,h3,h4,h5,h6⟩
    ·exact .inl ⟨by simp [h1,Ne.symm hc],by rw [if_neg (by simpa using hc),h2];rfl⟩
    ·refine .inr ⟨by simp [h1],i+1,?_,by simpa using h3,by simp [hc,h4],by simp [hc,h5],h6⟩;rw [if_neg (by simpa using hc),if_neg (by rw [h2];simp),h2];simp
theorem CS {r:Str} (h:10∉r):mM r=r∧jE r=[]:=by
 have e:∀ l:Str,10∉l→l.takeWhile (· != 10)=l∧l.dropWhile (· != 10)=[]:=by
  intro l hl
  induction l with
  | nil=>exact ⟨rfl,rfl⟩
  | cons c l ih=>
    have hc:c≠10:=fun e=>hl (by simp [e])
    obtain ⟨i1,i2⟩:=ih (fun h=>hl (List.mem_cons_of_mem _ h));simp [hc,i1,i2]
 obtain ⟨e1,e2⟩:=e r h;exact ⟨by rw [mM,e1,if_neg h,List.append_nil],by rw [jE,e2];rfl⟩
theorem CQ {r:Str} {i:Nat} (h:10∈r) (h4:r.takeWhile (· != 10)=r.take i) (h5:r.dropWhile (· != 10)=r.drop i) (h6:r[i]?=some 10):mM r=r.take (i+1)∧jE r=r.drop (i+1):=by
 refine ⟨?_,by rw [jE,h5,List.tail_drop]⟩;rw [mM,h4,if_pos h,List.take_add_one,h6];rfl
set_option maxHeartbeats 2000000 in
set_option maxRecDepth 100000 in
theorem Tryz.TY (n:Nat) (l bS:Nat) (I:Str→World→Prop) (X:World→Prop)
  (hI:∀ r W,I r W→W.cell? ⟨bS,0,none⟩=some (.string ⟨r.toArray⟩)∧W.frozen? ⟨bS,0,none⟩=false)
  (hY:∀ r W W2,r≠[]→I r W→W2.heap=(W.setCell ⟨bS,0,none⟩ (.string ⟨(jE r).toArray⟩)).heap→W2.os=W.os→W2.tape=W.tape→W2.output=W.output→YieldAt Fence.wide (n-1) Tryz.prog l #[.string ⟨(mM r).toArray⟩] W2 fun e W3=>(e = .returned (.bool true)∧I (jE r) W3)∨(e = .returned (.bool false)∧X W3))
  (s:Str) (hs:s.length≤16384) (W:World) (hW:I s W) :
  CallsIn Fence.wide n Tryz.prog 49 #[.func (.yield l) #[] #[],.pointer (some ⟨bS,0,none⟩)] W fun e W'=>(∃ v,e = .returned v)∧(I [] W'∨X W'):=by
 refine callsIn_wide.2 ?_;have mixed:Tryz.prog.follows .mixedOrders=true:=by kernel_rfl
 go_enter Tryz.func49,Tryz.ntmps49
 go_wp2
 go_loopw [] (fun wr=>∃ r:Str,r.length≤16384∧Hid (I r wr)) (fun wr=>yK bS wr)
 case atStart=>exact ⟨s,hs,hid hW⟩
 case round=>
  obtain ⟨r,hr,hIr⟩:=hrel;obtain ⟨c0,f0⟩:=hI r _ hIr.out;have cI:=fun W=>Tryz.indexB r 10 W
  rw [show ((10:UInt8).toNat:Int)=10 from rfl] at cI;by_cases h0:r=[]
  ·subst h0
   go_wp2
   exact bodyPost_end (results_none rfl _ _ _) rfl ⟨⟨_,rfl⟩,.inl hIr.out⟩
  ·have hl:0<r.length:=List.length_pos_iff.2 h0;have hY1:=hid (fun W2=>hY r wr W2 h0 hIr.out);rcases zF r with ⟨h1,h2⟩ | ⟨h1,i,h2,h3,h4,h5,h6⟩
   ·obtain ⟨e1,e2⟩:=CS h1;rw [h2] at cI;rw [e1,e2] at hY1;obtain ⟨fn,tmps,assign,body,hy,hR⟩:=hY1.out (wr.setCell ⟨bS,0,none⟩ (.string ⟨#[]⟩)) rfl rfl rfl rfl;refine wpIn_wide (n:=n).1 ?_
    replace h1:=hid h1
    gi_wp2_with (refine ⟨trivial,fun h=>(by cases h),?_⟩;refine (callsIn_wide.2 (cI _)).mono ?_;rintro e w' ⟨rfl,rfl⟩)
    refine ⟨fun h=>(by cases h),hR.mono ?_⟩;rintro e W3 (⟨rfl,hI3⟩ | ⟨rfl,hX⟩)
    ·replace hI3:=hid hI3
     gi_wp2
     refine ⟨⟨_,?len,hI3⟩,?meas⟩
     case len=>simp
     case meas=>
      rw [yK,yK,(hI _ _ hI3.out).1,c0];simp [ByteArray.size];omega
    ·gi_wp2
     refine bodyPost_ret (results_none rfl _ _ _) rfl ?_;exact ⟨⟨_,rfl⟩,.inr hX⟩
   ·obtain ⟨e1,e2⟩:=CQ h1 h4 h5 h6;rw [h2] at cI;rw [e1,e2] at hY1;have hwr:IntKind.i64.wrap ((i:Int)+1)=(i:Int)+1:=(by rw [IntKind.wrap_i64];omega);have c1:(0:Int)≤(i:Int)+1:=(by omega);have c2:(i:Int)+1≤r.length:=by omega
    replace h1:=hid h1
    go_wp2_with (go_at_call 50;refine (cI _).mono ?_;rintro e w' ⟨rfl,rfl⟩)
    go_region_o
    rename_i K hK;rw [dF,dF];simp only [List.drop_zero,Nat.sub_zero];rw [List.take_of_length_le (l:=r.drop (i+1)) (by simp)];refine hK _ _ (wpIn_wide (n:=n).1 ?_);clear hK;obtain ⟨fn,tmps,assign,body,hy,hR⟩:=hY1.out (w'.setCell ⟨bS,0,none⟩ (.string ⟨(r.drop (i+1)).toArray⟩)).drew rfl rfl rfl rfl
    gi_wp2
    refine ⟨fun h=>(by cases h),hR.mono ?_⟩;rintro e W3 (⟨rfl,hI3⟩ | ⟨rfl,hX⟩)
    ·replace hI3:=hid hI3
     gi_wp2
     refine ⟨⟨_,?len,hI3⟩,?meas⟩
     case len=>simp;omega
     case meas=>
      rw [yK,yK,(hI _ _ hI3.out).1,c0];simp [ByteArray.size];omega
    ·gi_wp2
     refine bodyPost_ret (results_none rfl _ _ _) rfl ?_;exact ⟨⟨_,rfl⟩,.inr hX⟩
theorem Tryz.aeK (s:ByteArray) (w:World):Calls Tryz.prog 17 #[.string s] w fun e w'=>e = .returned (.func (.func 49) #[] #[.pointer (some ⟨w.heap.size,0,none⟩)])∧w'=w.alloc (.cells #[.string s] 9):=by
 have hmf:∀ (fn:Fn) (first cap:Array Value) (w:World),(Instr.makeFunc fn first cap).run Tryz.prog w = .ok (.func fn first cap) w:=fun _ _ _ _=>rfl
 go_enter Tryz.func17,Tryz.ntmps17
 go_wp2
 go_ret
 exact ⟨rfl,rfl⟩
structure Alike (w:World) (bS:Nat) (W W':World):Prop where
 size:W'.heap.size=W.heap.size
 old:∀ k,k≠bS→k≠w.heap.size→k≠w.heap.size+1→W'.heap[k]?=W.heap[k]?
 os:W'.os=W.os
 tape:W'.tape=W.tape
 output:W'.output=W.output
def roundEnd (w:World) (bS:Nat) (I Ix:World→Prop) (W:World):Exit→Act→World→Prop
 | .normal,_,W'=>(∀ k,k=w.heap.size∨k=w.heap.size+1∨k=bS→W'.heap[k]?=W.heap[k]?)∧I W'
 | .ret,_,W'=>(∀ k,k=w.heap.size∨k=w.heap.size+1∨k=bS→W'.heap[k]?=W.heap[k]?)∧Ix W'
 | _,_,_=>False
theorem Tryz.Sl {n:Nat} {g:Operand} {ps:Array Tmp} {assign body:Code} {Q:Exit→Act→World→Prop} {a:Act} {w:World} (s:Str) (bS:Nat) (hsm:s.length≤16384)
  (hg:a.eval g = .func (.func 49) #[] #[.pointer (some ⟨bS,0,none⟩)]) (hps:ps.size=1) (hbS:bS<w.heap.size) (hc:w.heap[bS]?=some (.cells #[.string ⟨s.toArray⟩] 9 (0,0)))
  (I:Str→World→Prop) (Ix:World→Prop) (hI:∀ r W W',I r W→Alike w bS W W'→I r W') (hIx:∀ W W',Ix W→Alike w bS W W'→Ix W') (a₁:Str→Act)
  (hstart:∀ W,W.heap.size=w.heap.size+2→(∀ k,k<w.heap.size→W.heap[k]?=w.heap[k]?)→W.os=w.os→W.tape=w.tape→W.output=w.output→I s W)
  (hassign:∀ (r:Str) (l:Nat) (W:World) (K:Act→World→Prop),K (a₁ r) W→assign.wpIn (Fence.wide.inRound l) (n-1-1) Tryz.prog (Exit.then K (fun _ _ _=>False)) { tmps:=(ps.zip #[Value.string ⟨(mM r).toArray⟩]).foldl (fun t (p,v)=>t.setIfInBounds p v) a.tmps,defers:=[] } W)
  (hbody:∀ (r:Str) (l:Nat) (W:World),r≠[]→r.length≤16384→I r W→body.wpIn (Fence.wide.inRound l) (n-1-1) Tryz.prog (roundEnd w bS (I (jE r)) Ix W) (a₁ r) W)
  (hdone:∀ (W:World),I [] W→W.heap[w.heap.size]?=some (.deferred (some []))→Q .normal { a with defers:={ target := .collected w.heap.size,args:=#[] }::a.defers } W)
  (hstop:∀ (W:World),Ix W→W.heap[w.heap.size]?=some (.deferred (some []))→Q .ret { a with defers:={ target := .collected w.heap.size,args:=#[] }::a.defers } W) :
  (Code.rangeFunc g ps assign body).wpIn Fence.wide n Tryz.prog Q a w:=by
 refine wpIn_rangeFunc ?_;intro fn hfn;obtain ⟨rec,hrec⟩:∃ rec:LoopState→Option Code→Loop,rec=fun st pe=>{ state:=st,pending:=pe,fn,tmps:=a.tmps,params:=ps,assign,body,defers:=w.heap.size }:=⟨_,rfl⟩
 obtain ⟨W1,hW1⟩:∃ W1,(w.alloc (.deferred (some []))).alloc (.loop (rec .ready none))=W1:=⟨_,rfl⟩
 have hL1:W1.heap[w.heap.size+1]?=some (.loop (rec .ready none)):=by
  rw [← hW1];have:=World.alloc_heap_new (w.alloc (.deferred (some []))) (.loop (rec .ready none));rwa [World.size_alloc] at this
 have hK1:W1.heap[w.heap.size]?=some (.deferred (some [])):=by
  rw [← hW1];exact (Below.heap_alloc _ _ _ (by simp)).trans (World.alloc_heap_new w _)
 have ho1:∀ k,k<w.heap.size→W1.heap[k]?=w.heap[k]?:=fun k hk=>by
  rw [← hW1];exact (Below.heap_alloc _ _ _ (by simp;omega)).trans (Below.heap_alloc _ _ _ hk)
 have hs1:W1.heap.size=w.heap.size+2:=by rw [← hW1];simp
 have hq1:W1.os=w.os∧W1.tape=w.tape∧W1.output=w.output:=by rw [← hW1];exact ⟨rfl,rfl,rfl⟩
 have hI1:=hstart W1 hs1 ho1 hq1.1 hq1.2.1 hq1.2.2;have hc1:W1.heap[bS]?=some (.cells #[.string ⟨s.toArray⟩] 9 (0,0)):=(ho1 bS hbS).trans hc
 refine ⟨w.heap.size+1,[{ target := .collected w.heap.size,args:=#[] }],W1,{ target := .fn (.func 49) #[.pointer (some ⟨bS,0,none⟩)],args:=#[.func (.yield (w.heap.size+1)) #[] #[]] },W1,49,
  #[.func (.yield (w.heap.size+1)) #[] #[]]++#[.pointer (some ⟨bS,0,none⟩)],W1,?_,?_,?_,?_,(fun h=>by cases h),?_⟩
 ·rw [← hW1,hrec];exact run_enterLoop_outer _ _ _ _ _
 ·simp only [resolve,hg];simp [go_sem]
 ·intro f' _;trivial
 ·have eg:∀ args w,(callFunc 49 args).run Tryz.prog w = .ok (.enter 49 args) w:=enters_of Tryz.func49 (by kernel_rfl) rfl;simp [invoke,go_sem,eg]
 ·refine (Tryz.TY (n-1) (w.heap.size+1) bS
   (fun r W=>r.length≤16384∧I r W∧W.heap[bS]?=some (.cells #[.string ⟨r.toArray⟩] 9 (0,0))∧W.heap[w.heap.size+1]?=some (.loop (rec .ready none))∧W.heap[w.heap.size]?=some (.deferred (some [])))
   (fun W=>Ix W∧W.heap[w.heap.size+1]?=some (.loop (rec .done (some .ret)))∧W.heap[w.heap.size]?=some (.deferred (some [])))
   (fun r W h=>⟨by rw [Lib.cell_of_heap h.2.2.1];rfl,Lib.frozen_of_heap h.2.2.1 0⟩) ?_ s hsm W1 ⟨hsm,hI1,hc1,hL1,hK1⟩).mono ?_
  ·rintro r W W2 hr ⟨hrl,hIr,hcr,hLr,hKr⟩ h2 ho2 ht2 hp2;have hother:∀ k,k≠bS→W2.heap[k]?=W.heap[k]?:=fun k hk=>by rw [h2];exact aA W _ _ hk
   have hl:W2.heap[w.heap.size+1]?=some (.loop (rec .ready none)):=(hother _ (by omega)).trans hLr;have hk:W2.heap[w.heap.size]?=some (.deferred (some [])):=(hother _ (by omega)).trans hKr;have hs2:W2.heap.size=W.heap.size:=(by rw [h2];simp [World.setCell]);have hcS:W2.heap[bS]?=some (.cells #[.string ⟨(jE r).toArray⟩] 9 (0,0)):=(by rw [h2];exact bC 0 _ hcr);have hy:=run_yield (P:=Tryz.prog) (args:=#[Value.string ⟨(mM r).toArray⟩]) hl (by rw [hrec];simp [hps]);rw [hrec] at hy;refine ⟨fn,_,assign,body,hy,roundIn_of_wpIn hfn (hassign r _ W2 _ ⟨_,run_beginRound hl (by rw [hrec]),?_⟩)⟩;have hlt:w.heap.size+1<W2.heap.size:=(Array.getElem?_eq_some_iff.1 hl).1;obtain ⟨Wb,hWb⟩:∃ Wb,W2.putObj (w.heap.size+1) (.loop { rec .ready none with state := .busy })=Wb:=⟨_,rfl⟩
   have hl2:Wb.heap[w.heap.size+1]?=some (.loop { rec .ready none with state := .busy }):=(by rw [← hWb];exact World.putObj_heap_same hlt);have hob:∀ k,k≠w.heap.size+1→Wb.heap[k]?=W2.heap[k]?:=fun k hk=>by rw [← hWb];exact World.putObj_heap_other hk
   have hstart:Alike w bS W Wb:=by
    refine ⟨by rw [← hWb];simp [hs2],fun k h1 h2 h3=>(hob k h3).trans (hother k h1),?_,?_,?_⟩
    ·rw [← hWb];exact ho2
    ·rw [← hWb];exact ht2
    ·rw [← hWb];exact hp2
   rw [hWb];refine wpIn_mono (hbody r _ Wb hr hrl (hI _ _ _ hIr hstart)) ?_;have fin:∀ (jump:Option Code) (W3:World),(∀ k,k=w.heap.size∨k=w.heap.size+1∨k=bS→W3.heap[k]?=Wb.heap[k]?) →
     (Instr.endRound (w.heap.size+1) jump).run Tryz.prog W3 = .ok (.bool jump.isNone) (W3.putObj (w.heap.size+1) (.loop (rec (if jump.isNone then .ready else .done) jump))) ∧
     (W3.putObj (w.heap.size+1) (.loop (rec (if jump.isNone then .ready else .done) jump))).heap[w.heap.size+1]?=some (.loop (rec (if jump.isNone then .ready else .done) jump)) ∧
     (W3.putObj (w.heap.size+1) (.loop (rec (if jump.isNone then .ready else .done) jump))).heap[w.heap.size]?=some (.deferred (some [])) ∧
     (W3.putObj (w.heap.size+1) (.loop (rec (if jump.isNone then .ready else .done) jump))).heap[bS]?=some (.cells #[.string ⟨(jE r).toArray⟩] 9 (0,0)):=fun jump W3 hk3=>by
    have hl3:=(hk3 _ (.inr (.inl rfl))).trans hl2;have:=run_endRound (P:=Tryz.prog) jump hl3;rw [hrec] at this ⊢;refine ⟨this,World.putObj_heap_same (Array.getElem?_eq_some_iff.1 hl3).1,(World.putObj_heap_other (by omega)).trans ((hk3 _ (.inl rfl)).trans ((hob _ (by omega)).trans hk)),?_⟩;exact ((World.putObj_heap_other (k:=bS) (by omega)).trans ((hk3 _ (.inr (.inr rfl))).trans (hob _ (by omega)))).trans hcS
   have put:∀ W3 o,Alike w bS W3 (W3.putObj (w.heap.size+1) o):=fun W3 o=>⟨by simp,fun k _ _ h=>World.putObj_heap_other h,rfl,rfl,rfl⟩
   have hlr:(jE r).length≤16384:=by
    have:(jE r).length≤r.length:=by
     rw [jE,List.length_tail];have:=(List.dropWhile_sublist (l:=r) (· != 10)).length_le;omega
    omega
   rintro e a3 W3 hp;cases e with
   | normal=>
     obtain ⟨hk3,hi3⟩:=hp;obtain ⟨hr,hl4,hk4,hc4⟩:=fin none W3 hk3;exact ⟨_,_,hr,.inl ⟨rfl,hlr,hI _ _ _ hi3 (put _ _),hc4,hl4,hk4⟩⟩
   | ret=>
     obtain ⟨hk3,hi3⟩:=hp;obtain ⟨hr,hl4,hk4,hc4⟩:=fin (some .ret) W3 hk3;exact ⟨_,_,hr,.inr ⟨rfl,hIx _ _ hi3 (put _ _),hl4,hk4⟩⟩
   | exit id=>exact hp.elim
   | goto t=>exact hp.elim
   | panic ch=>exact hp.elim
   | outgrown=>exact hp.elim
  ·have put:∀ W3 o,Alike w bS W3 (W3.putObj (w.heap.size+1) o):=fun W3 o=>⟨by simp,fun k _ _ h=>World.putObj_heap_other h,rfl,rfl,rfl⟩
   rintro e W2 ⟨⟨v,rfl⟩,(⟨_,hi,_,hl,hk⟩ | ⟨hi,hl,hk⟩)⟩
   ·exact ⟨none,_,by have:=run_endLoop (P:=Tryz.prog) hl (by rw [hrec];simp);rw [hrec] at this;exact this,hdone _ (hI _ _ _ hi (put _ _)) ((World.putObj_heap_other (by omega)).trans hk)⟩
   ·exact ⟨some .ret,_,by have:=run_endLoop (P:=Tryz.prog) hl (by rw [hrec];simp);rw [hrec] at this;exact this,wpIn_ret (hstop _ (hIx _ _ hi (put _ _)) ((World.putObj_heap_other (by omega)).trans hk))⟩
end Go.Proofs
namespace Go.Abs
open Go Go.RowKit
theorem bV.pushed {B:Nat} {T:TypeId} {sz:Nat} {w w':World} {v:Value} {ds:List D} {vals news:List Value} {d:D} (hown:w.ownsRow B T sz v ds.length vals)
  (hdat:∀ (i:Nat) x,ds[i]?=some x→(D.cells x).length=sz∧∀ (j:Nat) c,(D.cells x)[j]?=some c→∃ u,vals[i*sz+j]?=some u∧RdD (fun b=>B≤b∧b<w.heap.size∧v.ownBlock≠some b) w u c∧u.oneCell'=true∧D.one c=true)
  (hl:news.length=sz) (hdl:(D.cells d).length=sz) (hd:∀ (j:Nat) u k,news[j]?=some u→(D.cells d)[j]?=some k→RdD (fun b=>B≤b∧b<w.heap.size∧v.ownBlock≠some b) w u k∧u.oneCell'=true∧D.one k=true)
  {v':Value} (e1:w'.ownsRow B T sz v' (ds.length+1) (vals++news)) (e2:w.grownBy w' v.ownBlock) (e3:v'.ownBlock=v.ownBlock∨v'.ownBlock=some w.heap.size):bV B T sz w' v' (ds++[d]):=by
 have hvl:=hown.1;have hmono:∀ {u:Value} {k:D},RdD (fun b=>B≤b∧b<w.heap.size∧v.ownBlock≠some b) w u k→RdD (fun b=>B≤b∧b<w'.heap.size∧v'.ownBlock≠some b) w' u k:=fun hr=>by
  refine hr.mono (fun b hb=>e2.block b hb.2.1 (fun e=>hb.2.2 e.symm)) fun b hb=>⟨hb.1,Nat.lt_of_lt_of_le hb.2.1 e2.size,fun e=>?_⟩
  rcases e3 with e3 | e3
  ·exact hb.2.2 (e3 ▸ e)
  ·rw [e3] at e;cases e;exact absurd hb.2.1 (Nat.lt_irrefl _)
 refine ⟨vals++news,by rw [List.length_append];exact e1,fun i x hx=>?_⟩;by_cases hi:i<ds.length
 ·rw [List.getElem?_append_left hi] at hx;obtain ⟨g1,g2⟩:=hdat i x hx;refine ⟨g1,fun j c hc=>?_⟩;obtain ⟨u,f1,f2,f3⟩:=g2 j c hc;exact ⟨u,by rw [List.getElem?_append_left (List.getElem?_eq_some_iff.1 f1).1];exact f1,hmono f2,f3⟩
 ·rw [List.getElem?_append_right (by omega)] at hx;have hi0:i-ds.length=0:=by
   have:=(List.getElem?_eq_some_iff.1 hx).1;simp at this;omega
  rw [hi0] at hx;cases hx;have hie:i=ds.length:=by omega
  subst hie;refine ⟨hdl,fun j c hc=>?_⟩;have hj:j<news.length:=by rw [hl,← hdl];exact (List.getElem?_eq_some_iff.1 hc).1
  obtain ⟨f1,f2⟩:=hd j news[j] c (List.getElem?_eq_getElem hj) hc;refine ⟨news[j],?_,hmono f1,f2⟩;rw [List.getElem?_append_right (by omega),hvl,Nat.add_sub_cancel_left];exact List.getElem?_eq_getElem hj
theorem AQ {F:Fence} {nF:Nat} {P:Program} {ops:Array Oper} {rest:List Oper} {o:Oper} {a:Act} {Q:Exit→Act→World→Prop} {w:World} (hgd:o.guard=none) (s x:Operand) (t:TypeId)
  (ho:o.op = .call { callee := .builtin .append,args:=#[s,x],argTypes:=#[t,t] }) {T:TypeId} {sz:Nat} (hI:qB P t T sz) {B:Nat} {v:Value} {ds:List D} (hs:a.eval s=v) (hR:bV B T sz w v ds)
  (ad:Addr) (c:Nat) (hx:a.eval x = .slice (some ad) 1 c) (d:D) (news:List Value) (hl:news.length=sz) (hnews:∀ j u,news[j]?=some u→w.cell? (ad.add j)=some u)
  (hdl:(D.cells d).length=sz) (hd:∀ (j:Nat) u k,news[j]?=some u→(D.cells d)[j]?=some k→RdD (fun b=>B≤b∧b<w.heap.size∧v.ownBlock≠some b) w u k∧u.oneCell'=true∧D.one k=true)
  (hn:ds.length≤1000000000) (hB:B≤w.heap.size)
  (h:∀ v' w',bV B T sz w' v' (ds++[d])→w.grownBy w' v.ownBlock→wpListIn F nF P ops Q rest (a.put o.dst v') w'):wpListIn F nF P ops Q (o::rest) a w:=by
 obtain ⟨vals,hown,hdat⟩:=hR;obtain ⟨i,z,h1,h2,h3,h4,h5⟩:=hI.info;have hones:∀ u∈news,u.oneCell'=true:=fun u hu=>by
  obtain ⟨j,hj,rfl⟩:=List.getElem_of_mem hu;exact (hd j _ (D.cells d)[j] (List.getElem?_eq_getElem hj) (List.getElem?_eq_getElem (by omega))).2.1
 have hb:(ds.length+1)*i.bytes≤140737488355328:=by
  have:=Nat.mul_le_mul (show ds.length+1≤1000000001 by omega) h4;omega
 exact wpListIn_append_own_at w hgd s x t ho B T i z sz i.bytes hI.und h1 h2 h3 rfl h5 hI.pos v ds.length vals hs hown ad 1 c news hx (by omega) hnews hones (by simp only [maxLen];omega) hb hB
  fun v' w' e1 e2 _ e4=>h v' w' (bV.pushed hown hdat hl hdl hd e1 e2 e4) e2
end Go.Abs
namespace Go.Proofs.YtpmapognbdiahaaGreatDoor
open Go Go.Abs Go.Own
theorem rdv {ok:Nat→Prop} {w:World} {v:Value} {l:List Sn} (h:RdD ok w v (.list (l.map enS))) :
  ∃ a cap,v = .slice a l.length cap∧(l=[]∨∃ b o,a=some ⟨b,o,none⟩∧ok b∧l.length≤cap∧cap≤maxLen ∧
    ∀ i (hi:i<l.length),∃ u0 u1 u2,w.cell? ⟨b,o+i*3,none⟩=some u0∧w.cell? ⟨b,o+i*3+1,none⟩=some u1∧w.cell? ⟨b,o+i*3+2,none⟩=some u2∧RdD ok w (.agg #[u0,u1]) (enT l[i].1)∧RdD ok w u2 (.list (l[i].2.map enT))):=by
 generalize hd:D.list (l.map enS)=d at h;cases h with
 | mO a=>
   have:=nU hd;obtain rfl:l=[]:=by simpa using this
   exact ⟨a,0,rfl,.inl rfl⟩
 | lst a cap sz xs us hb hs hl hm hsz hlen hcell hrd=>
   obtain rfl:=nU hd;obtain ⟨bk,o,sp⟩:=a;simp only at hs;subst hs;refine ⟨_,_,by rw [List.length_map],.inr ⟨bk,o,rfl,hb,by simpa using hl,hm,fun i hi=>?_⟩⟩;have hx:(l.map enS)[i]?=some (enS l[i]):=(by rw [List.getElem?_map,List.getElem?_eq_getElem hi];rfl);generalize l[i]=s at hx ⊢;obtain ⟨⟨n,ts⟩,ps⟩:=s;have hc:D.cells (enS (.mk n ts,ps))=[.str n,.list (ts.map enT),.list (ps.map enT)]:=rfl;have h3:sz=3:=(by rw [← hlen i _ hx,hc];rfl);subst h3;have c0:=hcell i _ 0 (.str n) hx (by rw [hc];rfl);have c1:=hcell i _ 1 (.list (ts.map enT)) hx (by rw [hc];rfl);have c2:=hcell i _ 2 (.list (ps.map enT)) hx (by rw [hc];rfl);refine ⟨us i 0,us i 1,us i 2,by simpa using c0.1,c1.1,c2.1,?_,hrd i _ 2 _ hx (by rw [hc];rfl)⟩;rw [enT,mW];refine .agg _ _ rfl (fun j v c hv hc'=>?_) fun j v c hv hc'=>?_
   ·match j,hv,hc' with
    | 0,hv,hc'=>simp at hv hc';subst hv;subst hc';exact hrd i _ 0 _ hx (by rw [hc];rfl)
    | 1,hv,hc'=>simp at hv hc';subst hv;subst hc';exact hrd i _ 1 _ hx (by rw [hc];rfl)
    | j+2,hv,_=>simp at hv
   ·match j,hv,hc' with
    | 0,hv,hc'=>simp at hv hc';subst hv;subst hc';exact c0.2
    | 1,hv,hc'=>simp at hv hc';subst hv;subst hc';exact c1.2
    | j+2,hv,_=>simp at hv
 | _=>cases hd
end Go.Proofs.YtpmapognbdiahaaGreatDoor
namespace Go.Proofs
open Go.RowKit Go.Shelf Go.Proofs.YtpmapognbdiahaaGreatDoor Go.Own
theorem jC {W w1:World} {k off:Nat} {v:Value} (h:Below W.heap.size W w1) (hk:k<W.heap.size) (hc:W.cell? ⟨k,off,none⟩=some v):w1.cell? ⟨k,off,none⟩=some v:=(h.cell (p:=⟨k,off,none⟩) hk).trans hc
set_option maxHeartbeats 2000000 in
set_option maxRecDepth 100000 in
theorem Tryz.Rt (l:List Sn) (w:World) (v:Value) (hrd:Abs.RdD (fun k=>k<w.heap.size) w v (.list (l.map enS))) (hlen:(bI l).length≤100000000000) (hn:∀ s∈l,s.2.length≤10000000) :
  Calls Tryz.prog 15 #[v] w fun e w'=>e = .returned (.string ⟨(bI l).toArray⟩)∧Below w.heap.size w w':=by
 obtain ⟨a,cap,rfl,hcs⟩:=rdv hrd;have HC:=Any.hidJ hcs;have HN:=Any.hidJ hn;clear hcs hrd hn;have hb0:=NR w.heap.size w (Nat.le_refl _);obtain ⟨W0,hW0⟩:∃ W0,w.alloc (.cells #[.pointer none,.slice none 0 0] 98)=W0:=⟨_,rfl⟩
 have hs0:W0.heap.size=w.heap.size+1:=by rw [← hW0];simp
 have HB0:Hid (Below w.heap.size w W0):=Any.hidJ (by rw [← hW0];exact (Below.refl _ w).alloc (Nat.le_refl _) _);rw [hW0] at hb0;have HI0:=Any.hidJ hb0;clear hb0
 go_enter Tryz.func15,Tryz.ntmps15
 go_wp2_with fail
 go_loopw [8] (fun i wr=>∃ k:Nat,k≤l.length∧i = .int .i64 k∧Hid (Tryz.IsB w.heap.size w.heap.size (bI (l.take k)) wr)∧Hid (Below w.heap.size w wr)∧w.heap.size<wr.heap.size) (fun i _=>l.length-(intOf i).toNat)
 case atStart=>exact ⟨0,Nat.zero_le _,rfl,HI0,HB0,by omega⟩
 case round=>
  obtain ⟨k,hk,rfl,HI,HB,hzr⟩:=hrel;by_cases hkl:k<l.length
  ·obtain ⟨bk,o,rfl,hbk,hlc,hcm,hcells⟩:=HC.out.resolve_left (fun e=>by rw [e] at hkl;cases hkl);obtain ⟨u0,u1,u2,g0,g1,g2,hr,hp⟩:=hcells k hkl;obtain ⟨⟨x0,rfl⟩,a1,l1,c1,rfl⟩:=JH hr;obtain ⟨a2,cp2,rfl,_⟩:=rdl hp;obtain ⟨l2,hn2⟩:∃ n,l[k].2.length=n:=⟨_,rfl⟩
   rw [hn2] at hp g2;clear hn2;have d0:wr.cell? ⟨bk,o+k*3,none⟩=some (.string x0):=(HB.out.cell (p:=⟨bk,o+k*3,none⟩) hbk).trans g0;have d1:wr.cell? ⟨bk,o+k*3+1,none⟩=some (.slice a1 l1 c1):=(HB.out.cell (p:=⟨bk,o+k*3+1,none⟩) hbk).trans g1;have d2:wr.cell? ⟨bk,o+k*3+2,none⟩=some (.slice a2 l2 cp2):=(HB.out.cell (p:=⟨bk,o+k*3+2,none⟩) hbk).trans g2;have hin:=Rq hkl;have hlm:l.length≤9223372036854775807:=(by simp only [maxLen] at hcm;omega);have hsucc:=Any.hidJ (nY hkl);have hpn:=HN.out l[k] (List.getElem_mem hkl);have HL:=Any.hidJ hkl;clear g0 g1 g2 hcells;have hrh:=Any.hidJ hr;have hph:=Any.hidJ hp;clear hr hp;obtain ⟨W1,hW1⟩:∃ W1,wr.alloc (.cells #[.string x0,.slice a1 l1 c1,.slice a2 l2 cp2] 44)=W1:=⟨_,rfl⟩
   have hsz1:W1.heap.size=wr.heap.size+1:=(by rw [← hW1];simp);have y1:W1.heap[wr.heap.size]?=some (.cells #[.string x0,.slice a1 l1 c1,.slice a2 l2 cp2] 44 (0,0)):=(by rw [← hW1];exact heap_alloc_new wr _);have k0:W1.cell? ⟨wr.heap.size,0,none⟩=some (.string x0):=(by simp [World.cell?,y1]);have k1:W1.cell? ⟨wr.heap.size,1,none⟩=some (.slice a1 l1 c1):=(by simp [World.cell?,y1]);have k2:W1.cell? ⟨wr.heap.size,2,none⟩=some (.slice a2 l2 cp2):=(by simp [World.cell?,y1]);have HB1:Hid (Below w.heap.size w W1):=Any.hidJ (by rw [← hW1];exact HB.out.alloc (by omega) _);have HI1:Hid (Tryz.IsB w.heap.size w.heap.size (bI (l.take k)) W1):=Any.hidJ (by rw [← hW1];exact Lib.IsBuilderF.alloc HI.out _);have Y1:=Any.hidJ y1;clear y1;obtain ⟨t0,ht0⟩:∃ t,aH l[k].1=t:=⟨_,rfl⟩
   obtain ⟨ps,hps⟩:∃ t,Lib.join (l[k].2.map aH) [44,32]=t:=⟨_,rfl⟩
   obtain ⟨t1,ht1⟩:∃ t,t0++[58,32]=t:=⟨_,rfl⟩
   obtain ⟨t2,ht2⟩:∃ t,t1++ps=t:=⟨_,rfl⟩
   obtain ⟨t3,ht3⟩:∃ t,t2++[10]=t:=⟨_,rfl⟩
   have hS:textS l[k]=t3:=(by rw [← ht3,← ht2,← ht1,← hps,← ht0,textS]);have hin:(bI (l.take k)).length+t3.length≤(bI l).length:=(by rw [← hS];exact hin);have q3:t3.length=t2.length+1:=(by rw [← ht3];simp);have q2:t2.length=t1.length+ps.length:=(by rw [← ht2];simp);have q1:t1.length=t0.length+2:=(by rw [← ht1];simp);have ad1:∀ w,(Op.stringOp .add ⟨t0.toArray⟩ ⟨#[58,32]⟩).run Tryz.prog w = .ok (.string ⟨t1.toArray⟩) w:=fun w=>by rw [← ht1];exact jk t0 [58,32] (by simp;omega) w
   have ad2:∀ w,(Op.stringOp .add ⟨t1.toArray⟩ ⟨ps.toArray⟩).run Tryz.prog w = .ok (.string ⟨t2.toArray⟩) w:=fun w=>by rw [← ht2];exact jk _ _ (by omega) w
   have ad3:∀ w,(Op.stringOp .add ⟨t2.toArray⟩ ⟨#[10]⟩).run Tryz.prog w = .ok (.string ⟨t3.toArray⟩) w:=fun w=>by rw [← ht3];exact jk t2 [10] (by simp;omega) w
   have Ht:=Any.hidJ ht0;have Hp:=Any.hidJ hps;have HS:=Any.hidJ hS;clear ht0 hps ht1 ht2 ht3 hS
   have cT:Hid (∀ W,Below w.heap.size w W→Calls Tryz.prog 44 #[.agg #[.string x0,.slice a1 l1 c1]] W fun e w'=>e = .returned (.string ⟨t0.toArray⟩)∧Below W.heap.size W w'):=Any.hidJ (fun W hB=>by
    rw [← Ht.out]
    exact Tryz.Ro l[k].1 W _ (hrh.out.mono (fun q hq=>hB.block q hq) (fun q hq=>Nat.lt_of_lt_of_le hq hB.size)) (by rw [Ht.out];omega))
   have cP:Hid (∀ W,Below w.heap.size w W→Calls Tryz.prog 45 #[.slice a2 l2 cp2] W fun e w'=>e = .returned (.string ⟨ps.toArray⟩)∧Below W.heap.size W w'):=Any.hidJ (fun W hB=>by
    rw [← Hp.out]
    exact Tryz.Xi l[k].2 W _ (hph.out.mono (fun q hq=>hB.block q hq) (fun q hq=>Nat.lt_of_lt_of_le hq hB.size)) (by rw [Hp.out];omega) hpn)
   have hz1:=HB1.out.size;clear hpn
   go_wp2_with fail
   clear hW1
   go_region_held3 (fun w'=>w'.cell? ⟨wr.heap.size,0,none⟩=some (.string x0)∧w'.cell? ⟨wr.heap.size,1,none⟩=some (.slice a1 l1 c1)∧w'.cell? ⟨wr.heap.size,2,none⟩=some (.slice a2 l2 cp2)) (go_keep)
    (first
     | (go_at_call 44;refine (cT.out _ HB1.out.drew).mono ?_;rintro e w1 ⟨rfl,hb1⟩;have z1:W1.heap.size≤w1.heap.size:=hb1.size;have m0:=jC hb1 (show wr.heap.size<W1.heap.size by omega) k0;have m1:=jC hb1 (show wr.heap.size<W1.heap.size by omega) k1;have m2:=jC hb1 (show wr.heap.size<W1.heap.size by omega) k2)
     | (go_at_call 45;refine (cP.out w1 (HB1.out.drew.trans (hb1.mono (show w.heap.size≤W1.heap.size by omega)))).mono ?_;rintro e w2 ⟨rfl,hb2⟩;have z2:=hb2.size;have n0:=jC hb2 (show wr.heap.size<w1.heap.size by omega) m0;have n1:=jC hb2 (show wr.heap.size<w1.heap.size by omega) m1;have n2:=jC hb2 (show wr.heap.size<w1.heap.size by omega) m2)
     | (go_at_call 43;refine (Tryz.agY w.heap.size w.heap.size (bI (l.take k)) t3 w2 (Um HI1.out (fun q hq=>(hb2.block q (by omega)).trans (hb1.block q hq))) (by omega) (by omega)).mono ?_;rintro e w3 ⟨rfl,hI3,hB3,hK3⟩;have y3:=kC hK3 ((hb2.block wr.heap.size (by omega)).trans ((hb1.block wr.heap.size (show wr.heap.size<W1.heap.size by omega)).trans Y1.out)) (by omega) (by decide);have p0:w3.cell? ⟨wr.heap.size,0,none⟩=some (.string x0):=(by simp [World.cell?,y3]);have p1:w3.cell? ⟨wr.heap.size,1,none⟩=some (.slice a1 l1 c1):=(by simp [World.cell?,y3]);have p2:w3.cell? ⟨wr.heap.size,2,none⟩=some (.slice a2 l2 cp2):=(by simp [World.cell?,y3]);clear y3))
   have z3:=hB3.size;have HI3:Hid (Tryz.IsB w.heap.size w.heap.size (bI (l.take (k+1))) w3):=Any.hidJ (by rw [hsucc.out.trans (congrArg (bI (l.take k)++·) HS.out)];exact hI3);have HB3:=Any.hidJ (((HB1.out.drew.trans (hb1.mono (show w.heap.size≤W1.heap.size by omega))).trans (hb2.mono (by omega))).trans hB3);clear hI3 hB3 hK3 hb1 hb2
   go_wp2_with fail
   go_roundw
   case rel=>exact ⟨k+1,by have:=HL.out;omega,by go_num,HI3,HB3,by omega⟩
   case measure=>have:=HL.out;simp [intOf];omega
  ·have hke:k=l.length:=(by omega);have hall:Hid (bI (l.take k)=bI l):=Any.hidJ (by rw [hke,List.take_length]);have cS:=Any.hidJ (Tryz.ZU w.heap.size w.heap.size _ wr HI.out (by omega));subst hke
   go_wp2_with (go_at_call 46;refine cS.out.mono ?_;rintro e w4 ⟨rfl,hb4⟩)
   go_ret
   exact ⟨rfl,HB.out.trans hb4⟩
end Go.Proofs
namespace Go.Proofs
open Go Go.RowKit Go.Shelf Go.Abs Go.Own Go.Proofs.YtpmapognbdiahaaGreatDoor
attribute [local go_sem] Oper.semAt_some
theorem Jr (r:Str):trimS (mM r)=r.takeWhile (· != 10):=by
 have hn:10∉r.takeWhile (· != 10):=fun h=>by
  have:=List.all_eq_true.1 (List.all_takeWhile (p:=(· != 10)) (l:=r)) _ h;simp at this
 rw [mM];split
 ·exact PN
 ·rw [List.append_nil];exact PL hn
theorem CU {r:Str} (h:r≠[]):(jE r).length<r.length∧(r.takeWhile (· != 10)).length≤r.length∧(mM r).length≤r.length:=by
 have hl:0<r.length:=List.length_pos_iff.2 h;rcases zF r with ⟨h1,_⟩ | ⟨h1,i,h2,h3,h4,h5,h6⟩
 ·obtain ⟨e1,e2⟩:=CS h1;have:=(List.takeWhile_sublist (l:=r) (· != 10)).length_le;rw [e1,e2];exact ⟨by simpa using hl,this,Nat.le_refl _⟩
 ·obtain ⟨e1,e2⟩:=CQ h1 h4 h5 h6;rw [e1,e2,h4];simp;omega
theorem J4 {s:Str} {x:Sn} (h:mF s=some x):x.2.length≤s.length+1:=by
 rcases um s with ⟨h1,_⟩ | ⟨a,b,h1,_,h3⟩
 ·rw [mF,h1] at h;cases h
 ·rw [mF,h1] at h;simp only at h;split at h
  ·rename_i t l ht hl;split at h
   ·cases h;have:=wJ hl;have:=congrArg List.length h3;simp at this;show l.length≤_;omega
   ·cases h
  ·cases h
theorem BZ {f:Nat} {r:Str} (h:r≠[]):qG (f+1) r=match mF (r.takeWhile (· != 10)) with | none=>none | some x=>(qG f (jE r)).map (x::·):=by
 rw [qG,if_neg h];rfl
theorem Tryz.seenInfo0:(Tryz.prog.info? 44).map (fun i=>(i.zero,i.size,i.bytes))=some (some (.agg #[.string ⟨#[]⟩,.slice none 0 0,.slice none 0 0]),3,64):=by kernel_rfl
theorem Tryz.GX:qB Tryz.prog 23 44 3:=by
 obtain ⟨i0,hi,hz0,hz1,hz2⟩:=info_parts Tryz.seenInfo0;exact ⟨Tryz.underlying23,by decide,i0,_,hi,hz0,hz1,by omega,rfl⟩
def wG (s r:Str) (acc:List Sn):Prop:=acc.length+r.length≤s.length∧(∀ x∈acc,x.2.length≤s.length+1)∧∃ f,r.length<f∧qG (s.length+1) s=(qG f r).map (acc++·)
theorem wG.start (s:Str):wG s s []:=⟨by simp,(fun x hx=>by cases hx),s.length+1,by omega,by cases qG (s.length+1) s<;>rfl⟩
theorem wG.bad {s r:Str} {acc:List Sn} (h:wG s r acc) (hr:r≠[]) (hn:mF (r.takeWhile (· != 10))=none):yX s=none:=by
 obtain ⟨_,_,f,hf,h⟩:=h;cases f with
 | zero=>omega
 | succ f=>
   rw [BZ hr,hn] at h;rw [yX,h];rfl
theorem wG.step {s r:Str} {acc:List Sn} {x:Sn} (h:wG s r acc) (hr:r≠[]) (hn:mF (r.takeWhile (· != 10))=some x):wG s (jE r) (acc++[x]):=by
 obtain ⟨h0,h1,f,hf,h⟩:=h;obtain ⟨g1,g2,_⟩:=CU hr;cases f with
 | zero=>omega
 | succ f=>
   rw [BZ hr,hn] at h;refine ⟨by rw [List.length_append];simp;omega,fun y hy=>?_,f,by omega,h.trans ?_⟩
   ·rcases List.mem_append.1 hy with hy | hy
    ·exact h1 y hy
    ·simp at hy;subst hy;have:=J4 hn;omega
   ·cases qG f (jE r)<;>simp
theorem wG.fin {s:Str} {acc:List Sn} (h:wG s [] acc):qG (s.length+1) s=some acc:=by
 obtain ⟨_,_,f,hf,h⟩:=h;cases f with
 | zero=>simp at hf
 | succ f=>rw [h,qG,if_pos rfl];simp
theorem wG.text {s:Str} {acc:List Sn} (h:wG s [] acc) (hs:s.length≤2000):(bI acc).length≤100000000000∧(∀ x∈acc,x.2.length≤10000000)∧yX s=if bI acc=s then some acc else none:=by
 have hf:=h.fin;obtain ⟨h0,h1,_⟩:=h;have hb:=fun x hx=>Nat.le_trans (h1 x hx) (show s.length+1≤2001 by omega)
 refine ⟨?_,fun x hx=>Nat.le_trans (hb x hx) (by decide),by rw [yX,hf]⟩;have:=CZ acc (vI hf) hb;have:=Nat.mul_le_mul (show acc.length≤2000 by simp at h0;omega) (Nat.le_refl (1873+2001*1872));omega
end Go.Proofs
