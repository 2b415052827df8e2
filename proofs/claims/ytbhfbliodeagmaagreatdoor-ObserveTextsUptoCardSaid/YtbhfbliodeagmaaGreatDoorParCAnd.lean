/- strings.Lines of a text of one line. -/
import Derived.RangeFuncOwn
import Derived.RangeFuncCalls
import Derived.RangeFuncLeaves
import Derived.Shelf.Abstract
import Derived.WalkKit
import Derived.TacticsIn
import Derived.RegionIn
import Derived.Shelf.RegionOpen
import Derived.Shelf.Small.Strs
import Derived.Ground.NamesProg
import Derived.OwnWalkIn
import Derived.TacticsInMore
import Derived.LoopNIn
import Derived.Test.YtbhfbliodeagmaaGreatDoorProg
import Derived.Lib.Builder
set_option linter.all false
namespace Go.Proofs
open Go.RowKit Go.Shelf
attribute [local go_sem] Oper.semAt_some
def Tryz.lays137_ren:Go.Shelf.Ren:=⟨fun | 137=>101 | 217=>161 | 266=>231 | n=>n,fun | 9=>9 | 5=>5 | 3=>3 | n=>n,fun | n=>n⟩
theorem Tryz.lays137:Go.Proofs.Lays.n137 Tryz.prog Tryz.lays137_ren:={
 mixed:=by kernel_rfl
 f137:=Tryz.func101.trans (congrArg some (by kernel_rfl))
 f217:=Tryz.func161.trans (congrArg some (by kernel_rfl))
 f266:=Tryz.func231.trans (congrArg some (by kernel_rfl))
 t3:=Tryz.underlying3
 a3:=Tryz.isAgg3
 z3:=Tryz.sizeOf3
 v3:=Tryz.zeroValue3
 t5:=Tryz.underlying5
 a5:=Tryz.isAgg5
 z5:=Tryz.sizeOf5
 v5:=Tryz.zeroValue5
 t9:=Tryz.underlying9
 a9:=Tryz.isAgg9
 z9:=Tryz.sizeOf9
 v9:=Tryz.zeroValue9 }
theorem acG (s:ByteArray):s.extract 0 s.size=s:=ByteArray.extract_zero_size
set_option maxHeartbeats 2000000 in
set_option maxRecDepth 100000 in
theorem Tryz.XR (n:Nat) (l bS:Nat) (s:ByteArray) (i:Nat) (hi:Lib.indexByte s.data.toList 10=(i:Int)) (hsz:s.size=i+1) (hsm:s.size≤100) (W:World) (hc:W.cell? ⟨bS,0,none⟩=some (.string s)) (hf:W.frozen? ⟨bS,0,none⟩=false) (G X:World→Prop)
  (hY:∀ W2,W2.heap=(W.setCell ⟨bS,0,none⟩ (.string ByteArray.empty)).heap→W2.os=W.os→W2.tape=W.tape→W2.output=W.output→YieldAt Fence.wide (n-1) Tryz.prog l #[.string s] W2 fun e W3=>(e = .returned (.bool true)∧W3.cell? ⟨bS,0,none⟩=some (.string ByteArray.empty)∧G W3)∨(e = .returned (.bool false)∧X W3)) :
  CallsIn Fence.wide n Tryz.prog 100 #[.func (.yield l) #[] #[],.pointer (some ⟨bS,0,none⟩)] W fun e W'=>(∃ v,e = .returned v)∧(G W'∨X W'):=by
 refine callsIn_wide.2 ?_
 have mixed:Tryz.prog.follows .mixedOrders=true:=by kernel_rfl
 have cI:∀ W,Calls Tryz.prog 101 #[.string s,.int .u8 10] W fun e w'=>e = .returned (.int .i64 i)∧w'=W:=fun W=>by
  refine (Any.strings_IndexByte Tryz.lays137 s 10 W).mono ?_
  rintro e w' ⟨rfl,rfl⟩
  exact ⟨by rw [show Lib.indexByte s.data.toList ((10:Int).toNat.toUInt8)=_ from hi],rfl⟩
 have hq:(0:Int)<s.size:=by omega
 have c0:(0:Int)≤i:=by omega
 have hwr:IntKind.i64.wrap ((i:Int)+1)=(i:Int)+1:=by rw [IntKind.wrap_i64];omega
 have c1:(0:Int)≤(i:Int)+1:=by omega
 have c2:(i:Int)+1≤s.size:=by omega
 go_enter Tryz.func100,Tryz.ntmps100
 go_wp2
 refine wp_loop_rounds 2 ?_
 rw [rounds_succ]
 go_wp2_with (go_at_call 101;refine (cI _).mono ?_;rintro e w' ⟨rfl,rfl⟩)
 go_region_o
 rename_i K hK
 rw [← hsz,acG]
 refine hK _ _ (wpIn_wide (n:=n).1 ?_)
 clear hK
 obtain ⟨fn,tmps,assign,body,hy,hR⟩:=hY _ (show (w'.setCell ⟨bS,0,none⟩ (.string ByteArray.empty)).drew.heap=_ from rfl) rfl rfl rfl
 gi_wp2
 refine ⟨fun h=>(by cases h),hR.mono ?_⟩
 rintro e W3 (⟨rfl,hc3,hG⟩ | ⟨rfl,hX⟩)
 ·gi_wp2
  rw [rounds_succ]
  have he:(ByteArray.empty:ByteArray).size=0:=rfl
  go_wp2
  refine bodyPost_end (results_none rfl _ _ _) rfl ?_
  exact ⟨⟨_,rfl⟩,.inl hG⟩
 ·gi_wp2
  refine bodyPost_ret (results_none rfl _ _ _) rfl ?_
  exact ⟨⟨_,rfl⟩,.inr hX⟩
theorem Tryz.Rz (s:ByteArray) (w:World):Calls Tryz.prog 54 #[.string s] w fun e w'=>e = .returned (.func (.func 100) #[] #[.pointer (some ⟨w.heap.size,0,none⟩)])∧w'=w.alloc (.cells #[.string s] 9):=by
 have hmf:∀ (fn:Fn) (first cap:Array Value) (w:World),(Instr.makeFunc fn first cap).run Tryz.prog w = .ok (.func fn first cap) w:=fun _ _ _ _=>rfl
 go_enter Tryz.func54,Tryz.ntmps54
 go_wp2
 go_ret
 exact ⟨rfl,rfl⟩
theorem bG (w:World) (p:Addr) (v:Value) (k:Nat) (h:k≠p.block):(w.setCell p v).heap[k]?=w.heap[k]?:=by
 simp only [World.setCell,Array.getElem?_modify]
 rw [if_neg (fun e=>h e.symm)]
theorem iW (w:World) (b j:Nat) (v:Value) {cs:Array Value} {T:TypeId} {fr:Nat×Nat} (h:w.heap[b]?=some (.cells cs T fr)):(w.setCell ⟨b,j,none⟩ v).heap[b]?=some (.cells (cs.setIfInBounds j v) T fr):=by
 simp [World.setCell,Array.getElem?_modify,h]
structure pO (w:World) (bS:Nat) (W:World):Prop where
 size:W.heap.size=w.heap.size+2
 old:∀ k,k<w.heap.size→k≠bS→W.heap[k]?=w.heap[k]?
 os:W.os=w.os
 tape:W.tape=w.tape
 output:W.output=w.output
def U5 (w:World) (bS:Nat) (I Ix:World→Prop) (W:World):Exit→Act→World→Prop
 | .normal,_,W'=>(∀ k,k=w.heap.size∨k=w.heap.size+1∨k=bS→W'.heap[k]?=W.heap[k]?)∧I W'
 | .ret,_,W'=>(∀ k,k=w.heap.size∨k=w.heap.size+1∨k=bS→W'.heap[k]?=W.heap[k]?)∧Ix W'
 | _,_,_=>False
theorem Tryz.F9 {n:Nat} {g:Operand} {ps:Array Tmp} {assign body:Code} {Q:Exit→Act→World→Prop} {a:Act} {w:World} (s:ByteArray) (i bS:Nat) (hi:Lib.indexByte s.data.toList 10=(i:Int)) (hsz:s.size=i+1) (hsm:s.size≤100)
  (hg:a.eval g = .func (.func 100) #[] #[.pointer (some ⟨bS,0,none⟩)]) (hps:ps.size=1) (hbS:bS<w.heap.size) (hc:w.cell? ⟨bS,0,none⟩=some (.string s)) (hf:w.frozen? ⟨bS,0,none⟩=false)
  (I Ix:World→Prop) (hI:∀ W o,I W→I (W.putObj (w.heap.size+1) o)) (hIx:∀ W o,Ix W→Ix (W.putObj (w.heap.size+1) o)) (a₁:Act)
  (hassign:∀ (l:Nat) (W:World) (K:Act→World→Prop),K a₁ W→assign.wpIn (Fence.wide.inRound l) (n-1-1) Tryz.prog (Exit.then K (fun _ _ _=>False)) { tmps:=(ps.zip #[Value.string s]).foldl (fun t (p,v)=>t.setIfInBounds p v) a.tmps,defers:=[] } W)
  (hbody:∀ (l:Nat) (W:World),pO w bS W→body.wpIn (Fence.wide.inRound l) (n-1-1) Tryz.prog (U5 w bS I Ix W) a₁ W)
  (hdone:∀ (W:World),I W→W.heap[w.heap.size]?=some (.deferred (some []))→Q .normal { a with defers:={ target := .collected w.heap.size,args:=#[] }::a.defers } W)
  (hstop:∀ (W:World),Ix W→W.heap[w.heap.size]?=some (.deferred (some []))→Q .ret { a with defers:={ target := .collected w.heap.size,args:=#[] }::a.defers } W) :
  (Code.rangeFunc g ps assign body).wpIn Fence.wide n Tryz.prog Q a w:=by
 refine wpIn_rangeFunc ?_
 intro fn hfn
 obtain ⟨rec,hrec⟩:∃ rec:LoopState→Option Code→Loop,rec=fun st pe=>{ state:=st,pending:=pe,fn,tmps:=a.tmps,params:=ps,assign,body,defers:=w.heap.size }:=⟨_,rfl⟩
 obtain ⟨W1,hW1⟩:∃ W1,(w.alloc (.deferred (some []))).alloc (.loop (rec .ready none))=W1:=⟨_,rfl⟩
 have hL1:W1.heap[w.heap.size+1]?=some (.loop (rec .ready none)):=by
  rw [← hW1];have:=World.alloc_heap_new (w.alloc (.deferred (some []))) (.loop (rec .ready none));rwa [World.size_alloc] at this
 have hK1:W1.heap[w.heap.size]?=some (.deferred (some [])):=by
  rw [← hW1];exact (Below.heap_alloc _ _ _ (by simp)).trans (World.alloc_heap_new w _)
 have ho1:∀ k,k<w.heap.size→W1.heap[k]?=w.heap[k]?:=fun k hk=>by
  rw [← hW1];exact (Below.heap_alloc _ _ _ (by simp;omega)).trans (Below.heap_alloc _ _ _ hk)
 have hs1:W1.heap.size=w.heap.size+2:=by rw [← hW1];simp
 have hq1:W1.os=w.os∧W1.tape=w.tape∧W1.output=w.output:=by rw [← hW1];exact ⟨rfl,rfl,rfl⟩
 have hc1:W1.cell? ⟨bS,0,none⟩=some (.string s):=(World.cell?_of_block (ho1 bS hbS)).trans hc
 have hf1:W1.frozen? ⟨bS,0,none⟩=false:=(World.frozen?_of_block (ho1 bS hbS)).trans hf
 refine ⟨w.heap.size+1,[{ target := .collected w.heap.size,args:=#[] }],W1,{ target := .fn (.func 100) #[.pointer (some ⟨bS,0,none⟩)],args:=#[.func (.yield (w.heap.size+1)) #[] #[]] },W1,100,
  #[.func (.yield (w.heap.size+1)) #[] #[]]++#[.pointer (some ⟨bS,0,none⟩)],W1,?_,?_,?_,?_,(fun h=>by cases h),?_⟩
 ·rw [← hW1,hrec];exact run_enterLoop_outer _ _ _ _ _
 ·simp only [resolve,hg]
  simp [go_sem]
 ·intro f' _;trivial
 ·have eg:∀ args w,(callFunc 100 args).run Tryz.prog w = .ok (.enter 100 args) w:=enters_of Tryz.func100 (by kernel_rfl) rfl
  simp [invoke,go_sem,eg]
 ·refine (Tryz.XR (n-1) (w.heap.size+1) bS s i hi hsz hsm W1 hc1 hf1
   (fun W=>I W∧W.heap[w.heap.size+1]?=some (.loop (rec .ready none))∧W.heap[w.heap.size]?=some (.deferred (some [])))
   (fun W=>Ix W∧W.heap[w.heap.size+1]?=some (.loop (rec .done (some .ret)))∧W.heap[w.heap.size]?=some (.deferred (some []))) ?_).mono ?_
  ·intro W2 h2 ho2 ht2 hp2
   have hother:∀ k,k≠bS→W2.heap[k]?=W1.heap[k]?:=fun k hk=>by rw [h2];exact bG W1 _ _ k hk
   have hl:W2.heap[w.heap.size+1]?=some (.loop (rec .ready none)):=(hother _ (by omega)).trans hL1
   have hk:W2.heap[w.heap.size]?=some (.deferred (some [])):=(hother _ (by omega)).trans hK1
   have hs2:W2.heap.size=w.heap.size+2:=by rw [h2];simp [World.setCell,hs1]
   have hcS:W2.cell? ⟨bS,0,none⟩=some (.string ByteArray.empty):=by
    have:=World.cell?_setCell_same' W1 ⟨bS,0,none⟩ (.string ByteArray.empty) (by rw [hc1];rfl)
    exact (World.cell?_of_block (a:=(⟨bS,0,none⟩:Addr)) (by rw [h2])).trans this
   have hy:=run_yield (P:=Tryz.prog) (args:=#[Value.string s]) hl (by rw [hrec];simp [hps])
   rw [hrec] at hy
   refine ⟨fn,_,assign,body,hy,roundIn_of_wpIn hfn (hassign _ W2 _ ⟨_,run_beginRound hl (by rw [hrec]),?_⟩)⟩
   have hlt:w.heap.size+1<W2.heap.size:=by omega
   obtain ⟨Wb,hWb⟩:∃ Wb,W2.putObj (w.heap.size+1) (.loop { rec .ready none with state := .busy })=Wb:=⟨_,rfl⟩
   have hl2:Wb.heap[w.heap.size+1]?=some (.loop { rec .ready none with state := .busy }):=by rw [← hWb];exact World.putObj_heap_same hlt
   have hob:∀ k,k≠w.heap.size+1→Wb.heap[k]?=W2.heap[k]?:=fun k hk=>by rw [← hWb];exact World.putObj_heap_other hk
   have hstart:pO w bS Wb:=by
    refine ⟨by rw [← hWb];simp [hs2],fun k hk hkb=>((hob k (by omega)).trans (hother k hkb)).trans (ho1 k hk),?_,?_,?_⟩
    ·rw [← hWb];exact ho2.trans hq1.1
    ·rw [← hWb];exact ht2.trans hq1.2.1
    ·rw [← hWb];exact hp2.trans hq1.2.2
   rw [hWb]
   refine wpIn_mono (hbody _ Wb hstart) ?_
   have fin:∀ (jump:Option Code) (W3:World),(∀ k,k=w.heap.size∨k=w.heap.size+1∨k=bS→W3.heap[k]?=Wb.heap[k]?) →
     (Instr.endRound (w.heap.size+1) jump).run Tryz.prog W3 = .ok (.bool jump.isNone) (W3.putObj (w.heap.size+1) (.loop (rec (if jump.isNone then .ready else .done) jump))) ∧
     (W3.putObj (w.heap.size+1) (.loop (rec (if jump.isNone then .ready else .done) jump))).heap[w.heap.size+1]?=some (.loop (rec (if jump.isNone then .ready else .done) jump)) ∧
     (W3.putObj (w.heap.size+1) (.loop (rec (if jump.isNone then .ready else .done) jump))).heap[w.heap.size]?=some (.deferred (some [])) ∧
     (W3.putObj (w.heap.size+1) (.loop (rec (if jump.isNone then .ready else .done) jump))).cell? ⟨bS,0,none⟩=some (.string ByteArray.empty):=fun jump W3 hk3=>by
    have hl3:=(hk3 _ (.inr (.inl rfl))).trans hl2
    have:=run_endRound (P:=Tryz.prog) jump hl3
    rw [hrec] at this ⊢
    refine ⟨this,World.putObj_heap_same (Array.getElem?_eq_some_iff.1 hl3).1,(World.putObj_heap_other (by omega)).trans ((hk3 _ (.inl rfl)).trans ((hob _ (by omega)).trans hk)),?_⟩
    exact (World.cell?_of_block (a:=(⟨bS,0,none⟩:Addr)) ((World.putObj_heap_other (k:=bS) (by omega)).trans ((hk3 _ (.inr (.inr rfl))).trans (hob _ (by omega))))).trans hcS
   rintro e a3 W3 hp
   cases e with
   | normal=>
     obtain ⟨hk3,hi3⟩:=hp
     obtain ⟨hr,hl4,hk4,hc4⟩:=fin none W3 hk3
     exact ⟨_,_,hr,.inl ⟨rfl,hc4,hI _ _ hi3,hl4,hk4⟩⟩
   | ret=>
     obtain ⟨hk3,hi3⟩:=hp
     obtain ⟨hr,hl4,hk4,hc4⟩:=fin (some .ret) W3 hk3
     exact ⟨_,_,hr,.inr ⟨rfl,hIx _ _ hi3,hl4,hk4⟩⟩
   | exit id=>exact hp.elim
   | goto t=>exact hp.elim
   | panic ch=>exact hp.elim
   | outgrown=>exact hp.elim
  ·rintro e W2 ⟨⟨v,rfl⟩,(⟨hi,hl,hk⟩ | ⟨hi,hl,hk⟩)⟩
   ·exact ⟨none,_,by have:=run_endLoop (P:=Tryz.prog) hl (by rw [hrec];simp);rw [hrec] at this;exact this,hdone _ (hI _ _ hi) ((World.putObj_heap_other (by omega)).trans hk)⟩
   ·exact ⟨some .ret,_,by have:=run_endLoop (P:=Tryz.prog) hl (by rw [hrec];simp);rw [hrec] at this;exact this,wpIn_ret (hstop _ (hIx _ _ hi) ((World.putObj_heap_other (by omega)).trans hk))⟩
set_option maxHeartbeats 2000000 in
set_option maxRecDepth 100000 in
theorem Tryz.ahN (w:World)
  (hTrim:∀ W,Below w.heap.size w W→Calls Tryz.prog 56 #[.string ⟨#[119,97,105,116,58,10]⟩,.string ⟨#[10]⟩] W fun e w'=>e = .returned (.string ⟨#[119,97,105,116,58]⟩)∧Below W.heap.size W w')
  (hLine:∀ W,Below w.heap.size w W→Calls Tryz.prog 55 #[.string ⟨#[119,97,105,116,58]⟩] W fun e w'=>e = .returned (.tuple #[.agg #[.string ⟨#[]⟩,.slice none 0 0,.slice none 0 0],.bool false])∧Below W.heap.size W w') :
  Calls Tryz.prog 21 #[.string ⟨#[119,97,105,116,58,10]⟩] w fun e w'=>e = .returned (.tuple #[.slice none 0 0,.int .i64 1])∧Below w.heap.size w w':=by
 refine (callsIn_wide (n:=6)).1 ?_
 refine callsIn_of_wp_marks Tryz.func21 rfl trivial ?_ rfl
 simp only [Tryz.ntmps21,List.size_toArray,List.length_cons,List.length_nil,Nat.reduceAdd,Nat.reduceSub,Array.replicate_succ,Array.replicate_zero,List.push_toArray,List.append_toArray,List.nil_append,List.cons_append]
 gi_wp2_with (refine ⟨trivial,?_⟩;gi_at_call 54;refine (callsIn_wide.2 (Tryz.Rz _ _)).mono ?_;rintro e w' ⟨rfl,rfl⟩)
 obtain ⟨W0,hW0⟩:∃ W0,((((w.alloc (Obj.cells #[Value.slice none 0 0] 22)).alloc (Obj.cells #[Value.int IntKind.i64 0] 36)).alloc (Obj.cells #[Value.slice none 0 0] 22)).alloc (Obj.cells #[Value.string ⟨#[119,97,105,116,58,10]⟩] 9))=W0:=⟨_,rfl⟩
 have hs0:W0.heap.size=w.heap.size+4:=by rw [← hW0];simp
 have hB0:Below w.heap.size w W0:=by rw [← hW0];exact ((((Below.refl _ w).alloc (Nat.le_refl _) _).alloc (by simp;try omega) _).alloc (by simp;try omega) _).alloc (by simp;try omega) _
 have hv2:W0.heap[w.heap.size]?=some (.cells #[.slice none 0 0] 22 (0,0)):=by rw [← hW0];exact (heap_alloc_old _ _ _ (by simp;try omega)).trans ((heap_alloc_old _ _ _ (by simp;try omega)).trans ((heap_alloc_old _ _ _ (by simp;try omega)).trans (heap_alloc_new _ _)))
 have hv3:W0.heap[w.heap.size+1]?=some (.cells #[.int .i64 0] 36 (0,0)):=by rw [← hW0];exact (heap_alloc_old _ _ _ (by simp;try omega)).trans ((heap_alloc_old _ _ _ (by simp;try omega)).trans (by have:=heap_alloc_new (w.alloc (Obj.cells #[Value.slice none 0 0] 22)) (Obj.cells #[Value.int IntKind.i64 0] 36);rwa [World.size_alloc] at this))
 have hv4:W0.heap[w.heap.size+2]?=some (.cells #[.slice none 0 0] 22 (0,0)):=by rw [← hW0];exact (heap_alloc_old _ _ _ (by simp;try omega)).trans (by have:=heap_alloc_new ((w.alloc (Obj.cells #[Value.slice none 0 0] 22)).alloc (Obj.cells #[Value.int IntKind.i64 0] 36)) (Obj.cells #[Value.slice none 0 0] 22);rwa [World.size_alloc,World.size_alloc] at this)
 have hv5:W0.heap[w.heap.size+3]?=some (.cells #[.string ⟨#[119,97,105,116,58,10]⟩] 9 (0,0)):=by rw [← hW0];have:=heap_alloc_new (((w.alloc (Obj.cells #[Value.slice none 0 0] 22)).alloc (Obj.cells #[Value.int IntKind.i64 0] 36)).alloc (Obj.cells #[Value.slice none 0 0] 22)) (Obj.cells #[Value.string ⟨#[119,97,105,116,58,10]⟩] 9);rwa [World.size_alloc,World.size_alloc,World.size_alloc] at this
 rw [hW0]
 clear hW0
 have hold:∀ W,pO W0 (w.heap.size+3) W→Below w.heap.size w W:=fun W h=>⟨h.os.trans hB0.os,h.tape.trans hB0.tape,h.output.trans hB0.output,by have:=h.size;omega,fun k hk=>(h.old k (by omega) (by omega)).trans (hB0.block k hk)⟩
 refine Tryz.F9 ⟨#[119,97,105,116,58,10]⟩ 5 (w.heap.size+3) (by decide) rfl (by decide) rfl rfl (by omega) (by rw [Lib.cell_of_heap hv5];rfl) (Lib.frozen_of_heap hv5 0) (fun _=>False)
  (fun W=>W.heap[w.heap.size]?=some (.cells #[.slice none 0 0] 22 (0,0))∧W.heap[w.heap.size+1]?=some (.cells #[.int .i64 1] 36 (0,0))∧Below w.heap.size w W)
  (fun _ _ h=>h) (fun W o h=>⟨(World.putObj_heap_other (by omega)).trans h.1,(World.putObj_heap_other (by omega)).trans h.2.1,h.2.2.os,h.2.2.tape,h.2.2.output,by simpa using h.2.2.size,fun k hk=>(World.putObj_heap_other (by omega)).trans (h.2.2.block k hk)⟩) ({ tmps:=#[.string ⟨#[119,97,105,116,58,10]⟩,undef,.pointer (some ⟨w.heap.size,0,none⟩),.pointer (some ⟨w.heap.size+1,0,none⟩),.pointer (some ⟨w.heap.size+1+1,0,none⟩),.string ⟨#[119,97,105,116,58,10]⟩,undef,undef,.string ⟨#[119,97,105,116,58,10]⟩,.int .i64 6,.bool false,.string ⟨#[119,97,105,116,58,10]⟩,.func (.func 100) #[] #[.pointer (some ⟨w.heap.size+1+1+1,0,none⟩)],.string ⟨#[119,97,105,116,58,10]⟩,undef,undef,undef,undef,undef,undef,undef,undef,undef,undef,undef,undef,undef,undef,undef,undef,undef],defers:=[] }) ?assign ?body ?done ?stop
 case assign=>
  intro l W K hK
  gi_wp2
  exact hK
 case body=>
  intro l W hst
  have hBW:=hold W hst
  have hsz:=hst.size
  have h2:W.heap[w.heap.size]?=some (.cells #[.slice none 0 0] 22 (0,0)):=(hst.old _ (by omega) (by omega)).trans hv2
  have h3:W.heap[w.heap.size+1]?=some (.cells #[.int .i64 0] 36 (0,0)):=(hst.old _ (by omega) (by omega)).trans hv3
  gi_wp2_with (first
   | (refine ⟨trivial,?_⟩;gi_at_call 56;refine (CallsIn.inRound l (callsIn_wide.2 (hTrim W hBW))).mono ?_;rintro e W4 ⟨rfl,hB4⟩;have hsz4:=hB4.size;have hBW4:=hBW.trans (hB4.mono (show w.heap.size≤W.heap.size by omega)))
   | (refine ⟨trivial,?_⟩;gi_at_call 55;refine (CallsIn.inRound l (callsIn_wide.2 (hLine W4 hBW4))).mono ?_;rintro e W5 ⟨rfl,hB5⟩;have hsz5:=hB5.size;have hBW5:=hBW4.trans (hB5.mono (show w.heap.size≤W4.heap.size by omega));have hk5:∀ k,k<W.heap.size→W5.heap[k]?=W.heap[k]?:=(fun k hk=>(hB5.block k (by omega)).trans (hB4.block k hk));have q2:=(hk5 _ (by omega)).trans h2;have q3:=(hk5 _ (by omega)).trans h3;have c2:W5.cell? ⟨w.heap.size,0,none⟩=some (.slice none 0 0):=(by rw [Lib.cell_of_heap q2];rfl);have c3:W5.cell? ⟨w.heap.size+1,0,none⟩=some (.int .i64 0):=(by rw [Lib.cell_of_heap q3];rfl);have z2:W5.frozen? ⟨w.heap.size,0,none⟩=false:=Lib.frozen_of_heap q2 0;have z3:W5.frozen? ⟨w.heap.size+1,0,none⟩=false:=Lib.frozen_of_heap q3 0;have r2:∀ o,(W5.alloc o).heap[w.heap.size]?=some (.cells #[.slice none 0 0] 22 (0,0)):=(fun o=>(heap_alloc_old _ _ _ (by omega)).trans q2);have c2':∀ o,(W5.alloc o).cell? ⟨w.heap.size,0,none⟩=some (.slice none 0 0):=(fun o=>by rw [Lib.cell_of_heap (r2 o)];rfl);have z2':∀ o,(W5.alloc o).frozen? ⟨w.heap.size,0,none⟩=false:=(fun o=>Lib.frozen_of_heap (r2 o) 0);have r3:∀ o v,((W5.alloc o).setCell ⟨w.heap.size,0,none⟩ v).heap[w.heap.size+1]?=some (.cells #[.int .i64 0] 36 (0,0)):=(fun o v=>(bG _ _ _ _ (by simp)).trans ((heap_alloc_old _ _ _ (by omega)).trans q3));have c3':∀ o v,((W5.alloc o).setCell ⟨w.heap.size,0,none⟩ v).cell? ⟨w.heap.size+1,0,none⟩=some (.int .i64 0):=(fun o v=>by rw [Lib.cell_of_heap (r3 o v)];rfl);have z3':∀ o v,((W5.alloc o).setCell ⟨w.heap.size,0,none⟩ v).frozen? ⟨w.heap.size+1,0,none⟩=false:=(fun o v=>Lib.frozen_of_heap (r3 o v) 0)))
  refine ⟨fun k hk=>?_,?_,?_,?_⟩
  ·have hkl:k<W.heap.size∧k≠w.heap.size∧k≠w.heap.size+1:=by omega
   exact (bG _ _ _ _ hkl.2.2).trans ((bG _ _ _ _ hkl.2.1).trans ((heap_alloc_old _ _ _ (by omega)).trans (hk5 k hkl.1)))
  ·exact (bG _ _ _ _ (by simp)).trans (iW _ _ 0 _ (r2 _))
  ·exact iW _ _ 0 _ (r3 _ _)
  ·exact ((hBW5.alloc (by omega) _).setCell (p:=⟨w.heap.size,0,none⟩) (Nat.le_refl _) _).setCell (p:=⟨w.heap.size+1,0,none⟩) (Nat.le_succ _) _
 case done=>intro W h _;exact h.elim
 case stop=>
  rintro W ⟨h2,h3,hB⟩ hK
  have hD:∀ k,k≠W0.heap.size→(W.putObj W0.heap.size (.deferred none)).heap[k]?=W.heap[k]?:=fun k hk=>World.putObj_heap_other hk
  refine ⟨by simp,.inl ⟨_,_,rfl,run_takeDeferred hK,?_⟩⟩
  have e2:(W.putObj W0.heap.size (.deferred none)).cell? ⟨w.heap.size,0,none⟩=some (.slice none 0 0):=by rw [Lib.cell_of_heap ((hD _ (by omega)).trans h2)];rfl
  have e3:(W.putObj W0.heap.size (.deferred none)).cell? ⟨w.heap.size+1,0,none⟩=some (.int .i64 1):=by rw [Lib.cell_of_heap ((hD _ (by omega)).trans h3)];rfl
  refine ⟨.tuple #[.slice none 0 0,.int .i64 1],by simp [results,Tryz.results21,go_sem,e2,e3],rfl,?_⟩
  exact ⟨hB.os,hB.tape,hB.output,by simpa using hB.size,fun k hk=>(hD k (by omega)).trans (hB.block k hk)⟩
theorem wW {w w':World} {base:Nat} {e:TypeId} {size:Nat} {v:Value} {n:Nat} {xs:List Value} (h:w.ownsRow base e size v n xs) (hk:∀ g,base≤g→g<w.heap.size→w'.heap[g]?=w.heap[g]?):w'.ownsRow base e size v n xs:=by
 obtain ⟨h1,h2 | ⟨g,cap,cur,e1,e2,e3,e4,e5,e6,e7⟩⟩:=h
 ·exact ⟨h1,.inl h2⟩
 ·exact ⟨h1,.inr ⟨g,cap,cur,e1,e2,(hk g e2 (Array.getElem?_eq_some_iff.1 e3).1).trans e3,e4,e5,e6,e7⟩⟩
theorem Tryz.infoSeen:(Tryz.prog.info? 30).map (fun i=>(i.zero,i.size,i.bytes))=some (some (.agg #[.string ⟨#[]⟩,.slice none 0 0,.slice none 0 0]),3,64):=by kernel_rfl
set_option maxHeartbeats 2000000 in
set_option maxRecDepth 100000 in
theorem Tryz.ahM (w:World)
  (hTrim:∀ W,Below w.heap.size w W→Calls Tryz.prog 56 #[.string ⟨#[119,97,105,116,58,32,10]⟩,.string ⟨#[10]⟩] W fun e w'=>e = .returned (.string ⟨#[119,97,105,116,58,32]⟩)∧Below W.heap.size W w')
  (hLine:∀ W,Below w.heap.size w W→Calls Tryz.prog 55 #[.string ⟨#[119,97,105,116,58,32]⟩] W fun e w'=>e = .returned (.tuple #[.agg #[.string ⟨#[119,97,105,116]⟩,.slice none 0 0,.slice none 0 0],.bool true])∧Below W.heap.size W w')
  (hText:∀ W b c,Below w.heap.size w W→b<W.heap.size→W.cell? ⟨b,0,none⟩=some (.string ⟨#[119,97,105,116]⟩)→W.cell? ⟨b,1,none⟩=some (.slice none 0 0)→W.cell? ⟨b,2,none⟩=some (.slice none 0 0)→Calls Tryz.prog 10 #[.slice (some ⟨b,0,none⟩) 1 c] W fun e w'=>e = .returned (.string ⟨#[119,97,105,116,58,32,10]⟩)∧Below W.heap.size W w') :
  Calls Tryz.prog 21 #[.string ⟨#[119,97,105,116,58,32,10]⟩] w fun e w'=>∃ b c cur,e = .returned (.tuple #[.slice (some ⟨b,0,none⟩) 1 c,.int .i64 0])∧w.heap.size≤b∧w'.heap[b]?=some (.cells cur 30 (0,0))∧1≤c∧c≤maxLen∧cur.size=c*3∧cur.toList.take 3=[.string ⟨#[119,97,105,116]⟩,.slice none 0 0,.slice none 0 0]∧Below w.heap.size w w':=by
 obtain ⟨i0,hi,hz0,hz1,hz2⟩:=info_parts Tryz.infoSeen
 refine (callsIn_wide (n:=6)).1 ?_
 refine callsIn_of_wp_marks Tryz.func21 rfl trivial ?_ rfl
 simp only [Tryz.ntmps21,List.size_toArray,List.length_cons,List.length_nil,Nat.reduceAdd,Nat.reduceSub,Array.replicate_succ,Array.replicate_zero,List.push_toArray,List.append_toArray,List.nil_append,List.cons_append]
 gi_wp2_with (refine ⟨trivial,?_⟩;gi_at_call 54;refine (callsIn_wide.2 (Tryz.Rz _ _)).mono ?_;rintro e w' ⟨rfl,rfl⟩)
 obtain ⟨W0,hW0⟩:∃ W0,((((w.alloc (Obj.cells #[Value.slice none 0 0] 22)).alloc (Obj.cells #[Value.int IntKind.i64 0] 36)).alloc (Obj.cells #[Value.slice none 0 0] 22)).alloc (Obj.cells #[Value.string ⟨#[119,97,105,116,58,32,10]⟩] 9))=W0:=⟨_,rfl⟩
 have hs0:W0.heap.size=w.heap.size+4:=by rw [← hW0];simp
 have hB0:Below w.heap.size w W0:=by rw [← hW0];exact ((((Below.refl _ w).alloc (Nat.le_refl _) _).alloc (by simp;try omega) _).alloc (by simp;try omega) _).alloc (by simp;try omega) _
 have hv2:W0.heap[w.heap.size]?=some (.cells #[.slice none 0 0] 22 (0,0)):=by rw [← hW0];exact (heap_alloc_old _ _ _ (by simp;try omega)).trans ((heap_alloc_old _ _ _ (by simp;try omega)).trans ((heap_alloc_old _ _ _ (by simp;try omega)).trans (heap_alloc_new _ _)))
 have hv3:W0.heap[w.heap.size+1]?=some (.cells #[.int .i64 0] 36 (0,0)):=by rw [← hW0];exact (heap_alloc_old _ _ _ (by simp;try omega)).trans ((heap_alloc_old _ _ _ (by simp;try omega)).trans (by have:=heap_alloc_new (w.alloc (Obj.cells #[Value.slice none 0 0] 22)) (Obj.cells #[Value.int IntKind.i64 0] 36);rwa [World.size_alloc] at this))
 have hv4:W0.heap[w.heap.size+2]?=some (.cells #[.slice none 0 0] 22 (0,0)):=by rw [← hW0];exact (heap_alloc_old _ _ _ (by simp;try omega)).trans (by have:=heap_alloc_new ((w.alloc (Obj.cells #[Value.slice none 0 0] 22)).alloc (Obj.cells #[Value.int IntKind.i64 0] 36)) (Obj.cells #[Value.slice none 0 0] 22);rwa [World.size_alloc,World.size_alloc] at this)
 have hv5:W0.heap[w.heap.size+3]?=some (.cells #[.string ⟨#[119,97,105,116,58,32,10]⟩] 9 (0,0)):=by rw [← hW0];have:=heap_alloc_new (((w.alloc (Obj.cells #[Value.slice none 0 0] 22)).alloc (Obj.cells #[Value.int IntKind.i64 0] 36)).alloc (Obj.cells #[Value.slice none 0 0] 22)) (Obj.cells #[Value.string ⟨#[119,97,105,116,58,32,10]⟩] 9);rwa [World.size_alloc,World.size_alloc,World.size_alloc] at this
 rw [hW0]
 clear hW0
 have hold:∀ W,pO W0 (w.heap.size+3) W→Below w.heap.size w W:=fun W h=>⟨h.os.trans hB0.os,h.tape.trans hB0.tape,h.output.trans hB0.output,by have:=h.size;omega,fun k hk=>(h.old k (by omega) (by omega)).trans (hB0.block k hk)⟩
 refine Tryz.F9 ⟨#[119,97,105,116,58,32,10]⟩ 6 (w.heap.size+3) (by decide) rfl (by decide) rfl rfl (by omega) (by rw [Lib.cell_of_heap hv5];rfl) (Lib.frozen_of_heap hv5 0) (fun W=>W.heap[w.heap.size]?=some (.cells #[.slice none 0 0] 22 (0,0))∧W.heap[w.heap.size+1]?=some (.cells #[.int .i64 0] 36 (0,0))∧(∃ v,W.heap[w.heap.size+2]?=some (.cells #[v] 22 (0,0))∧W.ownsRow (w.heap.size+6) 30 3 v 1 [.string ⟨#[119,97,105,116]⟩,.slice none 0 0,.slice none 0 0])∧Below w.heap.size w W)
  (fun _=>False) (fun W o h=>?hI) (fun _ _ h=>h) ({ tmps:=#[.string ⟨#[119,97,105,116,58,32,10]⟩,undef,.pointer (some ⟨w.heap.size,0,none⟩),.pointer (some ⟨w.heap.size+1,0,none⟩),.pointer (some ⟨w.heap.size+1+1,0,none⟩),.string ⟨#[119,97,105,116,58,32,10]⟩,undef,undef,.string ⟨#[119,97,105,116,58,32,10]⟩,.int .i64 7,.bool false,.string ⟨#[119,97,105,116,58,32,10]⟩,.func (.func 100) #[] #[.pointer (some ⟨w.heap.size+1+1+1,0,none⟩)],.string ⟨#[119,97,105,116,58,32,10]⟩,undef,undef,undef,undef,undef,undef,undef,undef,undef,undef,undef,undef,undef,undef,undef,undef,undef],defers:=[] }) ?assign ?body ?done ?stop
 case assign=>
  intro l W K hK
  gi_wp2
  exact hK
 case body=>
  intro l W hst
  have hBW:=hold W hst
  have hsz:=hst.size
  have h2:W.heap[w.heap.size]?=some (.cells #[.slice none 0 0] 22 (0,0)):=(hst.old _ (by omega) (by omega)).trans hv2
  have h4:W.heap[w.heap.size+2]?=some (.cells #[.slice none 0 0] 22 (0,0)):=(hst.old _ (by omega) (by omega)).trans hv4
  have h3:W.heap[w.heap.size+1]?=some (.cells #[.int .i64 0] 36 (0,0)):=(hst.old _ (by omega) (by omega)).trans hv3
  gi_wp2_with (first
   | (refine ⟨trivial,?_⟩;gi_at_call 56;refine (CallsIn.inRound l (callsIn_wide.2 (hTrim W hBW))).mono ?_;rintro e W4 ⟨rfl,hB4⟩;have hsz4:=hB4.size;have hBW4:=hBW.trans (hB4.mono (show w.heap.size≤W.heap.size by omega)))
   | (refine ⟨trivial,?_⟩;gi_at_call 55;refine (CallsIn.inRound l (callsIn_wide.2 (hLine W4 hBW4))).mono ?_;rintro e W5 ⟨rfl,hB5⟩;have hsz5:=hB5.size;have hBW5:=hBW4.trans (hB5.mono (show w.heap.size≤W4.heap.size by omega));have hk5:∀ k,k<W.heap.size→W5.heap[k]?=W.heap[k]?:=(fun k hk=>(hB5.block k (by omega)).trans (hB4.block k hk));have q4:=(hk5 _ (show w.heap.size+2<W.heap.size by omega)).trans h4;have r4:∀ o,(W5.alloc o).heap[w.heap.size+2]?=some (.cells #[.slice none 0 0] 22 (0,0)):=(fun o=>(heap_alloc_old _ _ _ (by omega)).trans q4);have c4':∀ o,(W5.alloc o).cell? ⟨w.heap.size+1+1,0,none⟩=some (.slice none 0 0):=(fun o=>by rw [Lib.cell_of_heap (r4 o)];rfl))
   | (gi_at_builtin;refine wpListIn_append_own _ rfl _ _ 22 rfl (w.heap.size+6) 30 i0 (.agg #[.string ⟨#[]⟩,.slice none 0 0,.slice none 0 0]) 3 64 Tryz.underlying22 hi hz0 hz1 hz2 rfl (by decide) _ _ _ rfl (World.ownsRow_nil _ _ _ _) ⟨W5.heap.size+1,0,none⟩ 1 1 [.string ⟨#[119,97,105,116]⟩,.slice none 0 0,.slice none 0 0] rfl rfl ?c1 ?c2 ?c3 ?c4 ?c5 ?_))
  case c1=>
   intro j u hu
   have hrow:=heap_alloc_new (W5.alloc (Obj.cells #[Value.string ⟨#[119,97,105,116]⟩,.slice none 0 0,.slice none 0 0] 30)) (Obj.cells #[Value.string ⟨#[119,97,105,116]⟩,.slice none 0 0,.slice none 0 0] 30)
   rw [World.size_alloc] at hrow
   have hadd:Addr.add ⟨W5.heap.size+1,0,none⟩ j=⟨W5.heap.size+1,j,none⟩:=by
    unfold Addr.add
    split
    ·simp_all
    ·simp
   rw [hadd]
   exact (Lib.cell_of_heap hrow j).trans (by simpa using hu)
  case c2=>
   intro u hu
   simp at hu
   rcases hu with rfl | rfl<;>rfl
  case c3=>unfold maxLen;omega
  case c4=>omega
  case c5=>simp;omega
  intro v' w2 hown' hgrow _
  obtain ⟨g,cap,rfl⟩:∃ g cap,v' = .slice (some ⟨g,0,none⟩) 1 cap:=by
   rcases hown'.2 with ⟨_,h0⟩ | ⟨g,cap,_,hv,_⟩
   ·cases h0
   ·exact ⟨g,cap,hv⟩
  have hg:∀ k,k<W.heap.size→w2.heap[k]?=W.heap[k]?:=fun k hk=>(hgrow.block k (by simp;omega) (by simp [Value.ownBlock])).trans ((heap_alloc_old _ _ _ (by simp;omega)).trans ((heap_alloc_old _ _ _ (by omega)).trans (hk5 k hk)))
  have d4:=(hg _ (show w.heap.size+2<W.heap.size by omega)).trans h4
  have e4:w2.cell? ⟨w.heap.size+1+1,0,none⟩=some (.slice none 0 0):=by rw [Lib.cell_of_heap d4];rfl
  have z4:w2.frozen? ⟨w.heap.size+1+1,0,none⟩=false:=Lib.frozen_of_heap d4 0
  gi_wp2
  refine ⟨fun k hk=>?_,?_,?_,⟨.slice (some ⟨g,0,none⟩) 1 cap,?_,?_⟩,?_⟩
  ·have hkl:k<W.heap.size∧k≠w.heap.size+1+1:=by omega
   exact (bG _ _ _ _ hkl.2).trans (hg k hkl.1)
  ·exact (bG _ _ _ _ (by simp;omega)).trans ((hg _ (by omega)).trans h2)
  ·exact (bG _ _ _ _ (by simp)).trans ((hg _ (by omega)).trans h3)
  ·exact iW _ _ 0 _ d4
  ·exact wW hown' fun k hk _=>bG _ _ _ _ (by simp;omega)
  ·exact (((hBW5.alloc (by omega) _).alloc (by simp;omega) _).grown hgrow (by simp;omega) (fun k hk=>by simp [Value.ownBlock] at hk)).setCell (p:=⟨w.heap.size+1+1,0,none⟩) (by simp;omega) _
 case done=>
  rintro W ⟨h2,h3,⟨v,h4,hown⟩,hB⟩ hK
  obtain ⟨_,⟨_,h0⟩ | ⟨g,cap,cur,rfl,e2,e3,e4,e5,e6,e7⟩⟩:=hown
  ·cases h0
  have hr:∀ j u,[Value.string ⟨#[119,97,105,116]⟩,.slice none 0 0,.slice none 0 0][j]?=some u→W.cell? ⟨g,j,none⟩=some u:=fun j u hu=>by
   rw [Lib.cell_of_heap e3,← Array.getElem?_toList]
   rw [← e7,List.getElem?_take] at hu
   split at hu
   ·exact hu
   ·cases hu
  have hgl:g<W.heap.size:=(Array.getElem?_eq_some_iff.1 e3).1
  have c4:W.cell? ⟨w.heap.size+1+1,0,none⟩=some (.slice (some ⟨g,0,none⟩) 1 cap):=by rw [Lib.cell_of_heap h4];rfl
  have cT:=hText W g cap hB hgl (hr 0 _ rfl) (hr 1 _ rfl) (hr 2 _ rfl)
  gi_wp2_with (refine ⟨trivial,?_⟩;gi_at_call 10;refine (callsIn_wide.2 cT).mono ?_;rintro e W6 ⟨rfl,hB6⟩;have k6:∀ k,k<W.heap.size→W6.heap[k]?=W.heap[k]?:=hB6.block;have q2:=(k6 _ (Array.getElem?_eq_some_iff.1 h2).1).trans h2;have q3:=(k6 _ (Array.getElem?_eq_some_iff.1 h3).1).trans h3;have q4:=(k6 _ (Array.getElem?_eq_some_iff.1 h4).1).trans h4;have p4:W6.cell? ⟨w.heap.size+1+1,0,none⟩=some (.slice (some ⟨g,0,none⟩) 1 cap):=(by rw [Lib.cell_of_heap q4];rfl);have p2:W6.cell? ⟨w.heap.size,0,none⟩=some (.slice none 0 0):=(by rw [Lib.cell_of_heap q2];rfl);have z2:W6.frozen? ⟨w.heap.size,0,none⟩=false:=Lib.frozen_of_heap q2 0;have r3:∀ v,(W6.setCell ⟨w.heap.size,0,none⟩ v).heap[w.heap.size+1]?=some (.cells #[.int .i64 0] 36 (0,0)):=(fun v=>(bG _ _ _ _ (by simp)).trans q3);have p3:∀ v,(W6.setCell ⟨w.heap.size,0,none⟩ v).cell? ⟨w.heap.size+1,0,none⟩=some (.int .i64 0):=(fun v=>by rw [Lib.cell_of_heap (r3 v)];rfl);have z3:∀ v,(W6.setCell ⟨w.heap.size,0,none⟩ v).frozen? ⟨w.heap.size+1,0,none⟩=false:=(fun v=>Lib.frozen_of_heap (r3 v) 0))
  obtain ⟨V,hV⟩:∃ V,(W6.setCell ⟨w.heap.size,0,none⟩ (.slice (some ⟨g,0,none⟩) 1 cap)).setCell ⟨w.heap.size+1,0,none⟩ (.int .i64 0)=V:=⟨_,rfl⟩
  have hVk:∀ k,k≠w.heap.size→k≠w.heap.size+1→k<W.heap.size→V.heap[k]?=W.heap[k]?:=fun k h1 h2 h3=>by
   rw [← hV];exact (bG _ _ _ _ h2).trans ((bG _ _ _ _ h1).trans (k6 k h3))
  have hV2:V.heap[w.heap.size]?=some (.cells #[.slice (some ⟨g,0,none⟩) 1 cap] 22 (0,0)):=by
   rw [← hV];exact (bG _ _ _ _ (by simp)).trans (iW _ _ 0 _ q2)
  have hV3:V.heap[w.heap.size+1]?=some (.cells #[.int .i64 0] 36 (0,0)):=by
   rw [← hV];exact iW _ _ 0 _ (r3 _)
  have hBV:Below w.heap.size w V:=by
   rw [← hV]
   exact ((hB.trans (hB6.mono hB.size)).setCell (p:=⟨w.heap.size,0,none⟩) (Nat.le_refl _) _).setCell (p:=⟨w.heap.size+1,0,none⟩) (Nat.le_succ _) _
  rw [hV]
  rw [hs0] at hK
  have hKV:V.heap[w.heap.size+4]?=some (.deferred (some [])):=(hVk _ (by omega) (by omega) (Array.getElem?_eq_some_iff.1 hK).1).trans hK
  clear hV
  refine ⟨by simp,.inl ⟨_,_,rfl,run_takeDeferred hKV,?_⟩⟩
  have hD:∀ k,k≠w.heap.size+4→(V.putObj (w.heap.size+4) (.deferred none)).heap[k]?=V.heap[k]?:=fun k hk=>World.putObj_heap_other hk
  have f2:(V.putObj (w.heap.size+4) (.deferred none)).cell? ⟨w.heap.size,0,none⟩=some (.slice (some ⟨g,0,none⟩) 1 cap):=by rw [Lib.cell_of_heap ((hD _ (by omega)).trans hV2)];rfl
  have f3:(V.putObj (w.heap.size+4) (.deferred none)).cell? ⟨w.heap.size+1,0,none⟩=some (.int .i64 0):=by rw [Lib.cell_of_heap ((hD _ (by omega)).trans hV3)];rfl
  refine ⟨.tuple #[.slice (some ⟨g,0,none⟩) 1 cap,.int .i64 0],by simp [results,Tryz.results21,go_sem,f2,f3],g,cap,cur,rfl,by omega,(hD _ (by omega)).trans ((hVk _ (by omega) (by omega) hgl).trans e3),e4,e5,e6,e7,?_⟩
  exact ⟨hBV.os,hBV.tape,hBV.output,by simpa using hBV.size,fun k hk=>(hD k (by omega)).trans (hBV.block k hk)⟩
 case stop=>intro W h _;exact h.elim
 case hI=>
  obtain ⟨i2,i3,⟨v,i4,i5⟩,i6⟩:=h
  refine ⟨(World.putObj_heap_other (by omega)).trans i2,(World.putObj_heap_other (by omega)).trans i3,⟨v,(World.putObj_heap_other (by omega)).trans i4,wW i5 fun k hk _=>World.putObj_heap_other (by omega)⟩,i6.os,i6.tape,i6.output,by simpa using i6.size,fun k hk=>(World.putObj_heap_other (by omega)).trans (i6.block k hk)⟩
end Go.Proofs
