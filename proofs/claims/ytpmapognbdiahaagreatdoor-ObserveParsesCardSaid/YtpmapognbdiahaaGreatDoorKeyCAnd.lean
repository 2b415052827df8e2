/- simplify.key: a text out of numbers below a hundred. -/
import Derived.Test.YtpmapognbdiahaaGreatDoorProg
import Derived.Shelf.Strings.Builder1
import Derived.Shelf.Strconv.Itoa3
import Derived.Shelf.Abstract
import Derived.Ground.NamesProg
import Derived.WalkKit
import Derived.Deep.RegionHeld3
set_option linter.all false
namespace Go.Proofs
open Go.RowKit Go.Shelf
def Tryz.lays171_ren:Go.Shelf.Ren:=⟨fun | 171=>226 | 243=>296 | 246=>342 | 283=>362 | 284=>363 | 285=>364 | 286=>365 | 129=>307 | 317=>383 | 318=>384 | 319=>385 | 320=>386 | 337=>399 | 338=>400 | n=>n,fun | 3=>3 | 9=>9 | 2=>2 | 4=>4 | 171=>383 | 0=>0 | 53=>337 | 37=>96 | 5=>5 | 173=>385 | 212=>399 | 51=>335 | 20=>20 | 213=>400 | 46=>149 | 232=>411 | 233=>412 | n=>n,fun | 17=>3 | 18=>4 | 19=>5 | n=>n⟩
theorem Tryz.lays171:Go.Proofs.Lays.n171 Tryz.prog Tryz.lays171_ren:={
 mixed:=by kernel_rfl
 f129:=Tryz.func307.trans (congrArg some (by kernel_rfl))
 f171:=Tryz.func226.trans (congrArg some (by kernel_rfl))
 f243:=Tryz.func296.trans (congrArg some (by kernel_rfl))
 f246:=Tryz.func342.trans (congrArg some (by kernel_rfl))
 f283:=Tryz.func362.trans (congrArg some (by kernel_rfl))
 f284:=Tryz.func363.trans (congrArg some (by kernel_rfl))
 f285:=Tryz.func364.trans (congrArg some (by kernel_rfl))
 f286:=Tryz.func365.trans (congrArg some (by kernel_rfl))
 f317:=Tryz.func383.trans (congrArg some (by kernel_rfl))
 f318:=Tryz.func384.trans (congrArg some (by kernel_rfl))
 f319:=Tryz.func385.trans (congrArg some (by kernel_rfl))
 f320:=Tryz.func386.trans (congrArg some (by kernel_rfl))
 f337:=Tryz.func399.trans (congrArg some (by kernel_rfl))
 f338:=Tryz.func400.trans (congrArg some (by kernel_rfl))
 t0:=Tryz.underlying0
 a0:=Tryz.isAgg0
 z0:=Tryz.sizeOf0
 v0:=Tryz.zeroValue0
 t2:=Tryz.underlying2
 a2:=Tryz.isAgg2
 z2:=Tryz.sizeOf2
 v2:=Tryz.zeroValue2
 t3:=Tryz.underlying3
 a3:=Tryz.isAgg3
 z3:=Tryz.sizeOf3
 v3:=Tryz.zeroValue3
 t4:=Tryz.underlying4
 a4:=Tryz.isAgg4
 z4:=Tryz.sizeOf4
 v4:=Tryz.zeroValue4
 t5:=Tryz.underlying5
 a5:=Tryz.isAgg5
 z5:=Tryz.sizeOf5
 v5:=Tryz.zeroValue5
 t9:=Tryz.underlying9
 a9:=Tryz.isAgg9
 z9:=Tryz.sizeOf9
 v9:=Tryz.zeroValue9
 t20:=Tryz.underlying20
 a20:=Tryz.isAgg20
 z20:=Tryz.sizeOf20
 v20:=Tryz.zeroValue20
 t37:=Tryz.underlying96
 a37:=Tryz.isAgg96
 z37:=Tryz.sizeOf96
 v37:=Tryz.zeroValue96
 t46:=Tryz.underlying149
 a46:=Tryz.isAgg149
 z46:=Tryz.sizeOf149
 v46:=Tryz.zeroValue149
 t51:=Tryz.underlying335
 a51:=Tryz.isAgg335
 z51:=Tryz.sizeOf335
 v51:=Tryz.zeroValue335
 t53:=Tryz.underlying337
 a53:=Tryz.isAgg337
 z53:=Tryz.sizeOf337
 v53:=Tryz.zeroValue337
 t171:=Tryz.underlying383
 a171:=Tryz.isAgg383
 z171:=Tryz.sizeOf383
 v171:=Tryz.zeroValue383
 t173:=Tryz.underlying385
 a173:=Tryz.isAgg385
 z173:=Tryz.sizeOf385
 v173:=Tryz.zeroValue385
 t212:=Tryz.underlying399
 a212:=Tryz.isAgg399
 z212:=Tryz.sizeOf399
 v212:=Tryz.zeroValue399
 t213:=Tryz.underlying400
 a213:=Tryz.isAgg400
 z213:=Tryz.sizeOf400
 t232:=Tryz.underlying411
 a232:=Tryz.isAgg411
 z232:=Tryz.sizeOf411
 v232:=Tryz.zeroValue411
 t233:=Tryz.underlying412
 a233:=Tryz.isAgg412
 z233:=Tryz.sizeOf412
 v233:=Tryz.zeroValue412
 g17:=by kernel_rfl
 g18:=by kernel_rfl
 g19:=by kernel_rfl }
def Tryz.lays169_ren:Go.Shelf.Ren:=⟨fun | 169=>46 | n=>n,fun | 70=>95 | 9=>9 | 0=>0 | 72=>98 | 37=>96 | 127=>154 | 3=>3 | 5=>5 | n=>n,fun | n=>n⟩
theorem Tryz.lays169:Go.Proofs.Lays.n169 Tryz.prog Tryz.lays169_ren:={
 mixed:=by kernel_rfl
 f169:=Tryz.func46.trans (congrArg some (by kernel_rfl))
 t0:=Tryz.underlying0
 a0:=Tryz.isAgg0
 z0:=Tryz.sizeOf0
 v0:=Tryz.zeroValue0
 t3:=Tryz.underlying3
 a3:=Tryz.isAgg3
 z3:=Tryz.sizeOf3
 v3:=Tryz.zeroValue3
 t9:=Tryz.underlying9
 a9:=Tryz.isAgg9
 z9:=Tryz.sizeOf9
 v9:=Tryz.zeroValue9
 t37:=Tryz.underlying96
 a37:=Tryz.isAgg96
 z37:=Tryz.sizeOf96
 v37:=Tryz.zeroValue96
 t70:=Tryz.underlying95
 a70:=Tryz.isAgg95
 z70:=Tryz.sizeOf95
 v70:=Tryz.zeroValue95
 t72:=Tryz.underlying98
 a72:=Tryz.isAgg98
 z72:=Tryz.sizeOf98
 v72:=Tryz.zeroValue98
 t127:=Tryz.underlying154
 a127:=Tryz.isAgg154
 z127:=Tryz.sizeOf154
 v127:=Tryz.zeroValue154 }
theorem Tryz.builderX169:Builder.Extra Tryz.prog Tryz.lays169_ren where
 sizeBuilder:=by kernel_rfl
 liesBuilder:=by kernel_rfl
 t5:=Tryz.underlying5
 a5:=Tryz.isAgg5
 z5:=Tryz.sizeOf5
 v5:=Tryz.zeroValue5
 infoByte:=by kernel_rfl
 cellsByte:=by kernel_rfl
 sizeByte:=by kernel_rfl
 neB5:=by decide
theorem Tryz.IB (i:Nat) (hi:i<100) (w:World):Calls Tryz.prog 226 #[.int .i64 i] w fun e w'=>e = .returned (.string ⟨(Lib.decDigits i).toArray⟩)∧w'=w:=Any.strconv_Itoa_small Tryz.lays171 i hi w
theorem Tryz.LC (B b:Nat) (l:List UInt8) (w:World) (h:Lib.IsBuilder 98 5 B b (Lib.byteCells l) w) (h0:l≠[]) :
  Calls Tryz.prog 46 #[.pointer (some ⟨b,0,none⟩)] w fun e w'=>e = .returned (.string ⟨l.toArray⟩)∧Below B w w':=Any.Builder_String Tryz.lays169 Tryz.builderX169 B b l w h h0
theorem Tryz.sizeBuilder:(Tryz.prog.info? 98).map (·.size)=some 2:=by kernel_rfl
theorem Tryz.infoByteK:(Tryz.prog.info? 5).map (fun i=>(i.zero,i.size,i.bytes))=some (some (.int .u8 0),1,1):=by kernel_rfl
set_option maxHeartbeats 1000000 in
set_option maxRecDepth 100000 in
theorem Tryz.V8 (b:Nat) (w:World) (h0:w.cell? ⟨b,0,none⟩=some (.pointer (some ⟨b,0,none⟩))) :
  Calls Tryz.prog 92 #[.pointer (some ⟨b,0,none⟩)] w fun e w'=>e = .returned (.tuple #[])∧w'=w:=by
 obtain ⟨j,hj,_⟩:=Option.map_eq_some_iff.1 Tryz.sizeBuilder
 go_enter Tryz.func92,Tryz.ntmps92
 go_wp2
 rw [Lib.run_neq_ptr_same w _ Tryz.underlying95 hj]
 go_wp2
 go_end0
 exact ⟨rfl,rfl⟩
set_option maxHeartbeats 1000000 in
set_option maxRecDepth 100000 in
theorem Tryz.QO (b:Nat) (w:World) (h0:w.cell? ⟨b,0,none⟩=some (.pointer none)) (hsh:w.shape? b=some (98,2)) (hfz:w.frozen? ⟨b,0,none⟩=false) :
  Calls Tryz.prog 92 #[.pointer (some ⟨b,0,none⟩)] w fun e w'=>e = .returned (.tuple #[])∧w'=w.setCell ⟨b,0,none⟩ (.pointer (some ⟨b,0,none⟩)):=by
 obtain ⟨j,hj,hjs⟩:=Option.map_eq_some_iff.1 Tryz.sizeBuilder
 go_enter Tryz.func92,Tryz.ntmps92
 go_wp2
 rw [Lib.run_to_unsafe w ⟨b,0,none⟩ Tryz.underlying95 Tryz.underlying217 hj (by rw [hjs];decide) hsh (Nat.zero_lt_succ 1)];simp only [Result.andThen];rw [Oper.upon_value]
 go_wp2
 rw [run_callFunc_extern Tryz.func157 (by kernel_rfl) (by kernel_rfl) (by kernel_rfl) (e:=Extern.AbiNoEscape.same) (by kernel_rfl)];rw [Lib.run_noEscape];simp only [Result.andThen];rw [Oper.upon_value]
 go_wp2
 rw [Lib.run_from_unsafe w ⟨b,0,none⟩ Tryz.underlying217 Tryz.underlying95 hj hsh (by kernel_rfl)];simp only [Result.andThen];rw [Oper.upon_value]
 go_wp2
 go_end0
 exact ⟨rfl,rfl⟩
theorem Tryz.ZE (B b:Nat) (bs:List Value) (w:World) (h:Lib.IsBuilder 98 5 B b bs w) :
  Calls Tryz.prog 92 #[.pointer (some ⟨b,0,none⟩)] w fun e w'=>e = .returned (.tuple #[])∧(Lib.BuilderAt 98 5 B b (.pointer (some ⟨b,0,none⟩)) bs w'∧Below B w w'):=by
 rcases h with h | h
 ·refine (Tryz.QO b w h.cell0 h.shape h.frozen0).mono ?_;rintro e w' ⟨rfl,rfl⟩;exact ⟨rfl,h.used _,(Below.refl B w).setCell (p:=⟨b,0,none⟩) h.1 _⟩
 ·refine (Tryz.V8 b w h.cell0).mono ?_;rintro e w' ⟨rfl,rfl⟩;exact ⟨rfl,h,Below.refl B _⟩
set_option maxHeartbeats 1000000 in
set_option maxRecDepth 100000 in
theorem Tryz.Jo (B b:Nat) (bs:List Value) (s:ByteArray) (w:World) (h:Lib.IsBuilder 98 5 B b bs w) (hlen:bs.length+s.size≤140737488355328) (hBw:B≤w.heap.size) :
  Calls Tryz.prog 43 #[.pointer (some ⟨b,0,none⟩),.string s] w fun e w'=>e = .returned (.tuple #[.int .i64 s.size,.nilIface])∧(Lib.BuilderAt 98 5 B b (.pointer (some ⟨b,0,none⟩)) (bs++Lib.strCells s) w'∧Below B w w'):=by
 obtain ⟨i0,hi,hz0,hz1,hz2⟩:=info_parts Tryz.infoByteK;have cC:=Tryz.ZE B b bs w h
 go_enter Tryz.func43,Tryz.ntmps43
 go_wp2_with (go_at_call 92;refine cC.mono ?_)
 rintro e w1 ⟨rfl,h1,hb1⟩;obtain ⟨hB,v,hbk,hown,hne⟩:=h1;have c0:w1.cell? ⟨b,0,none⟩=some (.pointer (some ⟨b,0,none⟩)):=by rw [Lib.cell_of_heap hbk];rfl
 have c1:w1.cell? ⟨b,1,none⟩=some v:=by rw [Lib.cell_of_heap hbk];rfl
 go_wp2_with (at_builtin;refine Lib.wpList_append_own_string _ rfl _ _ 96 9 rfl B 5 i0 Tryz.underlying96 Tryz.underlying9 hi hz0 hz1 hz2 _ _ _ rfl hown s rfl ?c3 ?c4 ?c5 ?_)
 case c3=>unfold maxLen;omega
 case c4=>omega
 case c5=>have:=hb1.size;omega
 intro v' w2 hown' hgrow _;have hlt:b<w1.heap.size:=(Array.getElem?_eq_some_iff.1 hbk).1;have hb2:w2.heap[b]?=some (.cells #[.pointer (some ⟨b,0,none⟩),v] 98 (0,0)):=by
  rw [hgrow.block b hlt (fun e=>hne e.symm)];exact hbk
 have d0:w2.cell? ⟨b,0,none⟩=some (.pointer (some ⟨b,0,none⟩)):=by rw [Lib.cell_of_heap hb2];rfl
 have d1:w2.cell? ⟨b,1,none⟩=some v:=by rw [Lib.cell_of_heap hb2];rfl
 have f1:w2.frozen? ⟨b,1,none⟩=false:=Lib.frozen_of_heap hb2 1;obtain ⟨ao,n',cap,rfl⟩:∃ ao n' cap,v' = .slice ao n' cap:=by
  rcases hown'.2 with ⟨hv,_⟩ | ⟨g,cap,cur,hv,_⟩
  ·exact ⟨_,_,_,hv⟩
  ·exact ⟨_,_,_,hv⟩
 go_wp2
 go_ret2
 refine ⟨rfl,?_,?_⟩
 ·exact Lib.BuilderAt.put (T:=98) (e:=5) hB hb2 (bs':=bs++Lib.strCells s) (by simpa [Lib.strCells_length] using hown') (by decide)
 ·exact (hb1.grown hgrow (by have:=hb1.size;omega) (fun k hk=>(hown.lt k hk).1)).setCell (p:=⟨b,1,none⟩) hB _
theorem jf {i:Nat} (h:i<100):(Lib.decDigits i).length≤2:=by
 by_cases h1:i<10
 ·rw [Lib.decDigits_one h1];simp
 ·rw [Lib.decDigits_two h1 h];simp
theorem su {P:Program} (a b:List UInt8) (h:a.length+b.length≤1000) (w:World):(Op.stringOp .add ⟨a.toArray⟩ ⟨b.toArray⟩).run P w = .ok (.string ⟨(a++b).toArray⟩) w:=by
 have h1:=run_string_add_sum (P:=P) (w:=w) ⟨a.toArray⟩ ⟨b.toArray⟩ (by simp [ByteArray.size];omega);rw [h1];congr 2
theorem uU (l:List UInt8):Lib.strCells ⟨l.toArray⟩=Lib.byteCells l:=by
 simp [Lib.strCells,Lib.byteCells]
def key2 (i j:Nat):List UInt8:=Lib.decDigits i++[32]++Lib.decDigits j
set_option maxHeartbeats 1000000 in
set_option maxRecDepth 100000 in
theorem Tryz.akk (i j:Nat) (hi:i<100) (hj:j<100) (q:Option Addr) (cap:Nat) (w:World) :
  Calls Tryz.prog 143 #[.agg #[.int .i64 i,.int .i64 j,.slice q 0 cap]] w fun e w'=>e = .returned (.string ⟨(key2 i j).toArray⟩)∧Below w.heap.size w w':=by
 have cI:=Tryz.IB i hi;have cJ:=Tryz.IB j hj;obtain ⟨di,hdi⟩:∃ di,Lib.decDigits i=di:=⟨_,rfl⟩
 obtain ⟨dj,hdj⟩:∃ dj,Lib.decDigits j=dj:=⟨_,rfl⟩
 have hli:di.length≤2:=by rw [← hdi];exact jf hi
 have hlj:dj.length≤2:=by rw [← hdj];exact jf hj
 have hk2:key2 i j=di++[32]++dj:=by unfold key2;rw [hdi,hdj]
 rw [hk2];rw [hdi] at cI;rw [hdj] at cJ;have ad1:∀ w,(Op.stringOp .add ⟨di.toArray⟩ ⟨#[32]⟩).run Tryz.prog w = .ok (.string ⟨(di++[32]).toArray⟩) w:=fun w=>su _ _ (by simp;omega) w
 have ad2:∀ w,(Op.stringOp .add ⟨(di++[32]).toArray⟩ ⟨dj.toArray⟩).run Tryz.prog w = .ok (.string ⟨(di++[32]++dj).toArray⟩) w:=fun w=>su _ _ (by simp;omega) w
 go_enter Tryz.func143,Tryz.ntmps143
 go_wp2
 obtain ⟨W0,hW0⟩:∃ W0,(w.alloc (.cells #[.int .i64 i,.int .i64 j,.slice q 0 cap] 201)).alloc (.cells #[.pointer none,.slice none 0 0] 98)=W0:=⟨_,rfl⟩
 have hB0:Below w.heap.size w W0:=by rw [← hW0];exact ((Below.refl _ w).alloc (Nat.le_refl _) _).alloc (by simp) _
 have hs0:W0.heap.size=w.heap.size+2:=by rw [← hW0];simp
 have hbx:W0.heap[w.heap.size]?=some (.cells #[.int .i64 i,.int .i64 j,.slice q 0 cap] 201 (0,0)):=by rw [← hW0];exact (Below.heap_alloc _ _ _ (by simp)).trans (heap_alloc_new w _)
 have hbl:W0.heap[w.heap.size+1]?=some (.cells #[.pointer none,.slice none 0 0] 98 (0,0)):=by rw [← hW0];have:=heap_alloc_new (w.alloc (.cells #[.int .i64 i,.int .i64 j,.slice q 0 cap] 201)) (.cells #[.pointer none,.slice none 0 0] 98);rwa [World.size_alloc] at this
 rw [hW0];have l0:W0.cell? ⟨w.heap.size,0,none⟩=some (.int .i64 i):=by simp [World.cell?,hbx]
 have l1:W0.cell? ⟨w.heap.size,1,none⟩=some (.int .i64 j):=by simp [World.cell?,hbx]
 have cW:∀ (s:ByteArray) (W:World),W.heap=W0.heap→s.size≤1000000→Calls Tryz.prog 43 #[.pointer (some ⟨w.heap.size+1,0,none⟩),.string s] W fun e w'=>e = .returned (.tuple #[.int .i64 s.size,.nilIface])∧(Lib.BuilderAt 98 5 (w.heap.size+1) (w.heap.size+1) (.pointer (some ⟨w.heap.size+1,0,none⟩)) ([]++Lib.strCells s) w'∧Below (w.heap.size+1) W w'):=fun s W hW hs=>
  Tryz.Jo _ _ [] s W (.inl ⟨Nat.le_refl _,.slice none 0 0,by rw [hW];exact hbl,⟨rfl,.inl ⟨rfl,rfl⟩⟩,by simp [Value.ownBlock]⟩) (by simp;omega) (by rw [hW,hs0];omega)
 clear hW0
 go_region_held3 (fun w'=>w'.cell? ⟨w.heap.size,0,none⟩=some (.int .i64 i)∧w'.cell? ⟨w.heap.size,1,none⟩=some (.int .i64 j)) (go_keep)
  (first
   | (go_at_call 226;first | (refine (cI _).mono ?_;rintro e w' ⟨rfl,rfl⟩) | (refine (cJ _).mono ?_;rintro e w' ⟨rfl,rfl⟩))
   | (go_at_call 43;refine (cW _ W0.drew rfl (by simp [ByteArray.size];omega)).mono ?_;rintro e w1 ⟨rfl,h1,hb1⟩;have m0:w1.cell? ⟨w.heap.size,0,none⟩=some (.int .i64 i):=(hb1.cell (p:=⟨w.heap.size,0,none⟩) (Nat.lt_succ_self _)).trans l0;have m1:w1.cell? ⟨w.heap.size,1,none⟩=some (.int .i64 j):=(hb1.cell (p:=⟨w.heap.size,1,none⟩) (Nat.lt_succ_self _)).trans l1))
 have hb1':Below (w.heap.size+1) W0 w1:=⟨hb1.os,hb1.tape,hb1.output,hb1.size,hb1.block⟩;have hbx1:w1.heap[w.heap.size]?=some (.cells #[.int .i64 i,.int .i64 j,.slice q 0 cap] 201 (0,0)):=(hb1'.block _ (by omega)).trans hbx;have l2:w1.cell? ⟨w.heap.size,2,none⟩=some (.slice q 0 cap):=by simp [World.cell?,hbx1]
 have cS:=Tryz.LC (w.heap.size+1) (w.heap.size+1) (di++32::dj) w1 (.inr (by simpa [uU] using h1)) (by simp);have hlb:Below w.heap.size w w1:=hB0.trans (hb1'.mono (by omega));clear cI cJ cW ad1 ad2 h1 hb1 hb1' hB0 hbx hbl hbx1
 go_wp2
 refine wp_loop_rounds 1 ?_;rw [rounds_succ]
 go_wp2_with (go_at_call 46;refine cS.mono ?_;rintro e w2 ⟨rfl,hb2⟩)
 go_ret
 exact ⟨by simp,hlb.trans (hb2.mono (by omega))⟩
def lW (i j:Nat) (ks:List Nat):List UInt8:=key2 i j++ks.flatMap fun k=>32::Lib.decDigits k
theorem zJ (i j:Nat) (hi:i<100) (hj:j<100):∀ ks:List Nat,(∀ k∈ks,k<100)→(lW i j ks).length≤5+3*ks.length
 | [],_=>by
   have:=jf hi;have:=jf hj;simp [lW,key2];omega
 | k::ks,h=>by
   have h1:=zJ i j hi hj ks fun x hx=>h x (List.mem_cons_of_mem _ hx)
   have h2:=jf (h k List.mem_cons_self);simp only [lW,List.flatMap_cons,List.length_append,List.length_cons] at h1 ⊢;omega
def keyAt (a:Act):Nat:=match a.tmps[18]? with | some (Value.int _ n)=>n.toNat | _=>0
theorem Qr (i j:Nat) (ks:List Nat) (k:Nat):lW i j (ks++[k])=lW i j ks++32::Lib.decDigits k:=by simp [lW]
set_option maxHeartbeats 1000000 in
set_option maxRecDepth 100000 in
theorem Tryz.akj (i j:Nat) (hi:i<100) (hj:j<100) (b0 o0:Nat) (cap:Nat) (ks:List Nat) (hks:∀ k∈ks,k<100) (hlen:ks.length≤1000) (w:World) (hb0:b0<w.heap.size) (hcell:∀ (n k:Nat),ks[n]?=some k→w.cell? ⟨b0,o0+n,none⟩=some (.int .i64 k)) :
  Calls Tryz.prog 143 #[.agg #[.int .i64 i,.int .i64 j,.slice (some ⟨b0,o0,none⟩) ks.length cap]] w fun e w'=>e = .returned (.string ⟨(lW i j ks).toArray⟩)∧Below w.heap.size w w':=by
 have cI:=Tryz.IB i hi;have cJ:=Tryz.IB j hj;obtain ⟨di,hdi⟩:∃ di,Lib.decDigits i=di:=⟨_,rfl⟩
 obtain ⟨dj,hdj⟩:∃ dj,Lib.decDigits j=dj:=⟨_,rfl⟩
 have hli:di.length≤2:=by rw [← hdi];exact jf hi
 have hlj:dj.length≤2:=by rw [← hdj];exact jf hj
 have hk2:key2 i j=di++[32]++dj:=by unfold key2;rw [hdi,hdj]
 rw [hdi] at cI;rw [hdj] at cJ;have ad1:∀ w,(Op.stringOp .add ⟨di.toArray⟩ ⟨#[32]⟩).run Tryz.prog w = .ok (.string ⟨(di++[32]).toArray⟩) w:=fun w=>su _ _ (by simp;omega) w
 have ad2:∀ w,(Op.stringOp .add ⟨(di++[32]).toArray⟩ ⟨dj.toArray⟩).run Tryz.prog w = .ok (.string ⟨(di++[32]++dj).toArray⟩) w:=fun w=>su _ _ (by simp;omega) w
 go_enter Tryz.func143,Tryz.ntmps143
 go_wp2
 obtain ⟨W0,hW0⟩:∃ W0,(w.alloc (.cells #[.int .i64 i,.int .i64 j,.slice (some ⟨b0,o0,none⟩) ks.length cap] 201)).alloc (.cells #[.pointer none,.slice none 0 0] 98)=W0:=⟨_,rfl⟩
 have hB0:Below w.heap.size w W0:=by rw [← hW0];exact ((Below.refl _ w).alloc (Nat.le_refl _) _).alloc (by simp) _
 have hs0:W0.heap.size=w.heap.size+2:=by rw [← hW0];simp
 have hbx:W0.heap[w.heap.size]?=some (.cells #[.int .i64 i,.int .i64 j,.slice (some ⟨b0,o0,none⟩) ks.length cap] 201 (0,0)):=by rw [← hW0];exact (Below.heap_alloc _ _ _ (by simp)).trans (heap_alloc_new w _)
 have hbl:W0.heap[w.heap.size+1]?=some (.cells #[.pointer none,.slice none 0 0] 98 (0,0)):=by rw [← hW0];have:=heap_alloc_new (w.alloc (.cells #[.int .i64 i,.int .i64 j,.slice (some ⟨b0,o0,none⟩) ks.length cap] 201)) (.cells #[.pointer none,.slice none 0 0] 98);rwa [World.size_alloc] at this
 rw [hW0];have l0:W0.cell? ⟨w.heap.size,0,none⟩=some (.int .i64 i):=by simp [World.cell?,hbx]
 have l1:W0.cell? ⟨w.heap.size,1,none⟩=some (.int .i64 j):=by simp [World.cell?,hbx]
 have cW:∀ (s:ByteArray) (W:World),W.heap=W0.heap→s.size≤1000000→Calls Tryz.prog 43 #[.pointer (some ⟨w.heap.size+1,0,none⟩),.string s] W fun e w'=>e = .returned (.tuple #[.int .i64 s.size,.nilIface])∧(Lib.BuilderAt 98 5 (w.heap.size+1) (w.heap.size+1) (.pointer (some ⟨w.heap.size+1,0,none⟩)) ([]++Lib.strCells s) w'∧Below (w.heap.size+1) W w'):=fun s W hW hs=>
  Tryz.Jo _ _ [] s W (.inl ⟨Nat.le_refl _,.slice none 0 0,by rw [hW];exact hbl,⟨rfl,.inl ⟨rfl,rfl⟩⟩,by simp [Value.ownBlock]⟩) (by simp;omega) (by rw [hW,hs0];omega)
 clear hW0
 go_region_held3 (fun w'=>w'.cell? ⟨w.heap.size,0,none⟩=some (.int .i64 i)∧w'.cell? ⟨w.heap.size,1,none⟩=some (.int .i64 j)) (go_keep)
  (first
   | (go_at_call 226;first | (refine (cI _).mono ?_;rintro e w' ⟨rfl,rfl⟩) | (refine (cJ _).mono ?_;rintro e w' ⟨rfl,rfl⟩))
   | (go_at_call 43;refine (cW _ W0.drew rfl (by simp [ByteArray.size];omega)).mono ?_;rintro e w1 ⟨rfl,h1,hb1⟩;have m0:w1.cell? ⟨w.heap.size,0,none⟩=some (.int .i64 i):=(hb1.cell (p:=⟨w.heap.size,0,none⟩) (Nat.lt_succ_self _)).trans l0;have m1:w1.cell? ⟨w.heap.size,1,none⟩=some (.int .i64 j):=(hb1.cell (p:=⟨w.heap.size,1,none⟩) (Nat.lt_succ_self _)).trans l1))
 have hb1':Below (w.heap.size+1) W0 w1:=⟨hb1.os,hb1.tape,hb1.output,hb1.size,hb1.block⟩;have hbx1:w1.heap[w.heap.size]?=some (.cells #[.int .i64 i,.int .i64 j,.slice (some ⟨b0,o0,none⟩) ks.length cap] 201 (0,0)):=(hb1'.block _ (by omega)).trans hbx;have l2:w1.cell? ⟨w.heap.size,2,none⟩=some (.slice (some ⟨b0,o0,none⟩) ks.length cap):=by simp [World.cell?,hbx1]
 have hlb:Below w.heap.size w w1:=hB0.trans (hb1'.mono (by omega));have hW1:Below w.heap.size w w1:=hlb;have hcell1:∀ (W:World),Below w.heap.size w W→∀ (n k:Nat),ks[n]?=some k→W.cell? ⟨b0,o0+n,none⟩=some (.int .i64 k):=fun W hW n k hk=>(hW.cell (p:=⟨b0,o0+n,none⟩) hb0).trans (hcell n k hk)
 have hstr:Lib.strCells ⟨(di++32::dj).toArray⟩=Lib.byteCells (lW i j []):=by
  rw [uU];simp [lW,hk2]
 rw [hstr] at h1;clear cI cJ cW ad1 ad2 hB0 hbx hbl hbx1
 go_wp2
 refine wp_loop (fun a W=>∃ (n:Nat) (d5 d19 d20 d21 d22 d23 d24 d25 d26:Value),n≤ks.length∧a={ tmps:=#[Value.agg #[.int .i64 i,.int .i64 j,.slice (some ⟨b0,o0,none⟩) ks.length cap],.pointer (some ⟨w.heap.size,0,none⟩),.string ⟨#[]⟩,
    .pointer (some ⟨w.heap.size+1,0,none⟩),undef,d5,.pointer (some ⟨w.heap.size,0,none⟩),.int .i64 i,.string ⟨di.toArray⟩,.string ⟨(di++[32]).toArray⟩,.pointer (some ⟨w.heap.size,1,none⟩),.int .i64 j,.string ⟨dj.toArray⟩,
    .string ⟨(di++32::dj).toArray⟩,.tuple #[.int .i64 (di.length+(dj.length+1)),.nilIface],.pointer (some ⟨w.heap.size,2,none⟩),.slice (some ⟨b0,o0,none⟩) ks.length cap,.int .i64 ks.length,.int .i64 n,d19,d20,d21,d22,d23,d24,d25,d26,undef],defers:=[] } ∧
   Lib.BuilderAt 98 5 (w.heap.size+1) (w.heap.size+1) (.pointer (some ⟨w.heap.size+1,0,none⟩)) (Lib.byteCells (lW i j (ks.take n))) W∧Below w.heap.size w W∧w.heap.size+1≤W.heap.size)
  (fun (a:Act) (_:World)=>ks.length-keyAt a) ?h0 ?hr
 case h0=>exact ⟨0,_,_,_,_,_,_,_,_,_,Nat.zero_le _,rfl,by simpa using h1,hW1,by have:=hb1'.size;omega⟩
 case hr=>
  rintro a W ⟨n,d5,d19,d20,d21,d22,d23,d24,d25,d26,hn,rfl,hbu,hbe,hsz⟩;rcases Nat.lt_or_ge n ks.length with hlt | hge
  ·have hk:ks[n]?=some ks[n]:=List.getElem?_eq_getElem hlt;have hc:=hcell1 W hbe n _ hk;have hkn:ks[n]<100:=hks _ (List.getElem_mem hlt);have cI:=Tryz.IB ks[n] hkn;obtain ⟨dk,hdk⟩:∃ dk,Lib.decDigits ks[n]=dk:=⟨_,rfl⟩
   have hlk:dk.length≤2:=(by rw [← hdk];exact jf hkn);rw [hdk] at cI;have hsn:lW i j (ks.take (n+1))=lW i j (ks.take n)++32::dk:=(by rw [List.take_succ_eq_append_getElem hlt,Qr,hdk]);generalize hkk:ks[n]=kn at hc cI hk;have ad1:∀ w,(Op.stringOp .add ⟨#[32]⟩ ⟨dk.toArray⟩).run Tryz.prog w = .ok (.string ⟨(32::dk).toArray⟩) w:=fun w=>su [32] _ (by simp;omega) w
   have hlb:(Lib.byteCells (lW i j (ks.take n))).length≤1000000:=by
    have h1:=zJ i j hi hj (ks.take n) fun k hk=>hks k (List.mem_of_mem_take hk)
    have h2:(ks.take n).length≤1000:=(by simp;omega);simp only [Lib.byteCells,List.length_map];omega
   go_wp2_with (first
    | (go_at_call 226;refine (cI _).mono ?_;rintro e w' ⟨rfl,rfl⟩)
    | (go_at_call 43;refine (Tryz.Jo (w.heap.size+1) (w.heap.size+1) _ _ _ (.inr hbu) (by simp [ByteArray.size];omega) hsz).mono ?_;rintro e w2 ⟨rfl,h2,hb2⟩))
   all_goals
    refine ⟨⟨n+1,_,_,_,_,_,_,_,_,_,by omega,rfl,?_,hbe.trans (hb2.mono (by omega)),Nat.le_trans hsz hb2.size⟩,?_⟩
    ·rw [hsn];have e:Lib.byteCells (lW i j (ks.take n)++32::dk)=Lib.byteCells (lW i j (ks.take n))++Lib.strCells ⟨(32::dk).toArray⟩:=(by rw [uU];simp [Lib.byteCells]);rw [e];exact h2
    ·show ks.length-((n:Int)+1).toNat<ks.length-((n:Nat):Int).toNat;omega
  ·obtain rfl:n=ks.length:=by omega
   rw [List.take_length] at hbu;have hne:lW i j ks≠[]:=(by simp [lW,key2]);have cS:=Tryz.LC (w.heap.size+1) (w.heap.size+1) (lW i j ks) W (.inr hbu) hne
   go_wp2_with (go_at_call 46;refine cS.mono ?_;rintro e w2 ⟨rfl,hb2⟩)
   go_ret
   exact ⟨rfl,hbe.trans (hb2.mono (by omega))⟩
end Go.Proofs
