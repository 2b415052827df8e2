/- term.Text of a name; printer.Terms and strings.Join of at most one term. -/
import Derived.Test.YtbhfbliodeagmaaGreatDoorKeyCAnd
set_option linter.all false
namespace Go.Proofs
open Go.RowKit Go.Shelf
theorem tY (w:World) (p:Addr) (v:Value) (k:Nat) (h:k≠p.block):(w.setCell p v).heap[k]?=w.heap[k]?:=by
 simp only [World.setCell,Array.getElem?_modify]
 rw [if_neg (fun e=>h e.symm)]
set_option maxHeartbeats 1000000 in
set_option maxRecDepth 100000 in
theorem Tryz.VR (B b:Nat) (bs:List Value) (s:ByteArray) (w:World) (p v:Value) (hp:p = .pointer none∨p = .pointer (some ⟨b,0,none⟩)) (hB:B≤b) (hbk:w.heap[b]?=some (.cells #[p,v] 58 (0,0))) (hown:w.ownsRow B 5 1 v bs.length bs) (hne:v.ownBlock≠some b)
  (hlen:bs.length+s.size≤140737488355328) (hBw:B≤w.heap.size) :
  Calls Tryz.prog 27 #[.pointer (some ⟨b,0,none⟩),.string s] w fun e w'=>e = .returned (.tuple #[.int .i64 s.size,.nilIface])∧(Lib.BuilderAt 58 5 B b (.pointer (some ⟨b,0,none⟩)) (bs++Lib.strCells s) w'∧Below B w w') ∧
   ∀ k,k<w.heap.size→k≠b→v.ownBlock≠some k→w'.heap[k]?=w.heap[k]?:=by
 obtain ⟨i0,hi,hz0,hz1,hz2⟩:=info_parts Tryz.infoByteK
 have cC:Calls Tryz.prog 66 #[.pointer (some ⟨b,0,none⟩)] w fun e w'=>e = .returned (.tuple #[])∧(B≤b∧w'.heap[b]?=some (.cells #[.pointer (some ⟨b,0,none⟩),v] 58 (0,0))∧w'.ownsRow B 5 1 v bs.length bs∧v.ownBlock≠some b)∧Below B w w'∧w'.heap.size=w.heap.size∧∀ k,k≠b→w'.heap[k]?=w.heap[k]?:=by
  rcases hp with rfl | rfl
  ·have h:Lib.BuilderAt 58 5 B b (.pointer none) bs w:=⟨hB,v,hbk,hown,hne⟩
   refine (Tryz.Hr b w h.cell0 h.shape h.frozen0).mono ?_
   rintro e w' ⟨rfl,rfl⟩
   obtain ⟨q1,v1,q2,q3,q4⟩:=h.used (.pointer (some ⟨b,0,none⟩))
   have hv:v1=v:=by
    have h2:=q2
    simp only [World.setCell,Array.getElem?_modify,hbk,if_pos,Option.map_some] at h2
    simp at h2
    exact h2.symm
   subst hv
   exact ⟨rfl,⟨q1,q2,q3,q4⟩,(Below.refl B w).setCell (p:=⟨b,0,none⟩) h.1 _,by simp [World.setCell],fun k hk=>tY _ _ _ _ hk⟩
  ·have h:Lib.BuilderAt 58 5 B b (.pointer (some ⟨b,0,none⟩)) bs w:=⟨hB,v,hbk,hown,hne⟩
   refine (Tryz.NI b w h.cell0).mono ?_
   rintro e w' ⟨rfl,rfl⟩
   exact ⟨rfl,⟨hB,hbk,hown,hne⟩,Below.refl B _,rfl,fun _ _=>rfl⟩
 clear hbk hown
 go_enter Tryz.func27,Tryz.ntmps27
 go_wp2_with (go_at_call 66;refine cC.mono ?_)
 rintro e w1 ⟨rfl,⟨_,hbk,hown,_⟩,hb1,hsz1,hk1⟩
 have c0:w1.cell? ⟨b,0,none⟩=some (.pointer (some ⟨b,0,none⟩)):=by rw [Lib.cell_of_heap hbk];rfl
 have c1:w1.cell? ⟨b,1,none⟩=some v:=by rw [Lib.cell_of_heap hbk];rfl
 go_wp2_with (at_builtin;refine Lib.wpList_append_own_string _ rfl _ _ 56 9 rfl B 5 i0 Tryz.underlying56 Tryz.underlying9 hi hz0 hz1 hz2 _ _ _ rfl hown s rfl ?c3 ?c4 ?c5 ?_)
 case c3=>unfold maxLen;omega
 case c4=>omega
 case c5=>have:=hb1.size;omega
 intro v' w2 hown' hgrow _
 have hlt:b<w1.heap.size:=(Array.getElem?_eq_some_iff.1 hbk).1
 have hb2:w2.heap[b]?=some (.cells #[.pointer (some ⟨b,0,none⟩),v] 58 (0,0)):=by
  rw [hgrow.block b hlt (fun e=>hne e.symm)]
  exact hbk
 have d0:w2.cell? ⟨b,0,none⟩=some (.pointer (some ⟨b,0,none⟩)):=by rw [Lib.cell_of_heap hb2];rfl
 have d1:w2.cell? ⟨b,1,none⟩=some v:=by rw [Lib.cell_of_heap hb2];rfl
 have f1:w2.frozen? ⟨b,1,none⟩=false:=Lib.frozen_of_heap hb2 1
 obtain ⟨ao,n',cap,rfl⟩:∃ ao n' cap,v' = .slice ao n' cap:=by
  rcases hown'.2 with ⟨hv,_⟩ | ⟨g,cap,cur,hv,_⟩
  ·exact ⟨_,_,_,hv⟩
  ·exact ⟨_,_,_,hv⟩
 go_wp2
 go_ret2
 refine ⟨rfl,⟨?_,?_⟩,fun k hk hkb hkv=>?_⟩
 ·exact Lib.BuilderAt.put (T:=58) (e:=5) hB hb2 (bs':=bs++Lib.strCells s) (by simpa [Lib.strCells_length] using hown') (by decide)
 ·exact (hb1.grown hgrow (by have:=hb1.size;omega) (fun k hk=>(hown.lt k hk).1)).setCell (p:=⟨b,1,none⟩) hB _
 ·rw [tY _ _ _ _ hkb,hgrow.block k (by omega) (fun e=>hkv e.symm),hk1 k hkb]
set_option maxHeartbeats 1000000 in
set_option maxRecDepth 100000 in
theorem Tryz.ahr (B b:Nat) (s:ByteArray) (q:Option Addr) (cap:Nat) (w:World) (h:Lib.BuilderAt 58 5 B b (.pointer none) [] w) (hs:s.size≤1000) (hBw:B≤w.heap.size) :
  Calls Tryz.prog 67 #[.pointer (some ⟨b,0,none⟩),.agg #[.string s,.slice q 0 cap]] w fun e w'=>e = .returned (.tuple #[])∧(Lib.BuilderAt 58 5 B b (.pointer (some ⟨b,0,none⟩)) (Lib.strCells s) w'∧Below B w w'):=by
 obtain ⟨hB,v,hbk,hown,hne⟩:=h
 have hb:b<w.heap.size:=(Array.getElem?_eq_some_iff.1 hbk).1
 have hw0:∀ o,(w.alloc o).heap[b]?=w.heap[b]?:=fun o=>heap_alloc_old w o hb
 have cW:∀ o,Calls Tryz.prog 27 #[.pointer (some ⟨b,0,none⟩),.string s] (w.alloc o) _:=fun o=>
  Tryz.VR B b [] s (w.alloc o) _ v (.inl rfl) hB ((hw0 o).trans hbk) (hown.alloc _) hne (by simp;omega) (by simp;omega)
 go_enter Tryz.func67,Tryz.ntmps67
 go_wp2_with (go_at_call 27;refine (cW _).mono ?_;rintro e w1 ⟨rfl,⟨h1,hb1⟩,hk1⟩;have hbx:w1.heap[w.heap.size]?=some (.cells #[.string s,.slice q 0 cap] 28 (0,0)):=(hk1 w.heap.size (by simp) (by omega) (fun e=>by have:=(hown.lt _ e).2;omega)).trans (heap_alloc_new w _);have l1:w1.cell? ⟨w.heap.size,1,none⟩=some (.slice q 0 cap):=by simp [World.cell?,hbx])
 refine bodyPost_ret (results_none rfl _ _ _) rfl ?_
 rw [List.nil_append] at h1
 exact ⟨rfl,h1,((Below.refl B w).alloc hBw _).trans hb1⟩
set_option maxHeartbeats 1000000 in
set_option maxRecDepth 100000 in
theorem Tryz.text0 (l:List UInt8) (q:Option Addr) (cap:Nat) (w:World) (h0:l≠[]) (hs:l.length≤1000) :
  Calls Tryz.prog 28 #[.agg #[.string ⟨l.toArray⟩,.slice q 0 cap]] w fun e w'=>e = .returned (.string ⟨l.toArray⟩)∧Below w.heap.size w w':=by
 obtain ⟨W,hW⟩:∃ W,w.alloc (.cells #[.string ⟨l.toArray⟩,.slice q 0 cap] 28)=W:=⟨_,rfl⟩
 have hsz:W.heap.size=w.heap.size+1:=by rw [← hW];simp
 have hb0:Lib.BuilderAt 58 5 W.heap.size W.heap.size (.pointer none) [] (W.alloc (.cells #[.pointer none,.slice none 0 0] 58)):=⟨Nat.le_refl _,.slice none 0 0,heap_alloc_new W _,⟨rfl,.inl ⟨rfl,rfl⟩⟩,by simp [Value.ownBlock]⟩
 have cW:=Tryz.ahr W.heap.size W.heap.size ⟨l.toArray⟩ q cap _ hb0 (by simpa [ByteArray.size] using hs) (by simp)
 rw [og] at cW
 have cS:∀ w1,Lib.BuilderAt 58 5 W.heap.size W.heap.size (.pointer (some ⟨W.heap.size,0,none⟩)) (Lib.byteCells l) w1→Calls Tryz.prog 30 #[.pointer (some ⟨W.heap.size,0,none⟩)] w1 fun e w'=>e = .returned (.string ⟨l.toArray⟩)∧Below W.heap.size w1 w':=fun w1 h1=>Tryz.AP W.heap.size W.heap.size l w1 (.inr h1) h0
 have hBW:Below w.heap.size w W:=by rw [← hW];exact (Below.refl _ w).alloc (Nat.le_refl _) _
 rw [hsz] at cW
 have hbx:W.heap[w.heap.size]?=some (.cells #[.string ⟨l.toArray⟩,.slice q 0 cap] 28 (0,0)):=by rw [← hW];exact heap_alloc_new w _
 have l0:W.cell? ⟨w.heap.size,0,none⟩=some (.string ⟨l.toArray⟩):=by simp [World.cell?,hbx]
 have l1:W.cell? ⟨w.heap.size,1,none⟩=some (.slice q 0 cap):=by simp [World.cell?,hbx]
 rw [hsz] at cS
 go_enter Tryz.func28,Tryz.ntmps28
 go_wp2_with (first | (go_at_call 67;refine cW.mono ?_;rintro e w1 ⟨rfl,h1,hb1⟩;have cS:=cS w1 h1) | (go_at_call 30;refine cS.mono ?_;rintro e w2 ⟨rfl,hb2⟩))
 go_ret
 exact ⟨rfl,hBW.trans ((((Below.refl _ W).alloc (by omega) _).trans (hb1.mono (by omega))).trans (hb2.mono (by omega)))⟩
set_option maxHeartbeats 1000000 in
set_option maxRecDepth 100000 in
theorem Tryz.X4 (q:Option Addr) (cap:Nat) (sep:ByteArray) (w:World):Calls Tryz.prog 68 #[.slice q 0 cap,.string sep] w fun e w'=>e = .returned (.string ⟨#[]⟩)∧w'=w:=by
 go_enter Tryz.func68,Tryz.ntmps68
 go_wp2
 go_ret
 exact ⟨rfl,rfl⟩
set_option maxHeartbeats 1000000 in
set_option maxRecDepth 100000 in
theorem Tryz.aco (a:Addr) (cap:Nat) (s sep:ByteArray) (w:World) (h:w.cell? a=some (.string s)):Calls Tryz.prog 68 #[.slice (some a) 1 cap,.string sep] w fun e w'=>e = .returned (.string s)∧w'=w:=by
 obtain ⟨b,o,sp⟩:=a
 go_enter Tryz.func68,Tryz.ntmps68
 go_wp2
 go_ret
 exact ⟨rfl,rfl⟩
theorem Tryz.infoStr:(Tryz.prog.info? 9).map (fun i=>(i.zero,i.size,i.bytes))=some (some (.string ⟨#[]⟩),1,16):=by kernel_rfl
set_option maxHeartbeats 1000000 in
set_option maxRecDepth 100000 in
theorem Tryz.FW (q:Option Addr) (cap:Nat) (w:World):Calls Tryz.prog 29 #[.slice q 0 cap] w fun e w'=>e = .returned (.string ⟨#[]⟩)∧w'=w:=by
 have cJ:=Tryz.X4 none 0
 go_enter Tryz.func29,Tryz.ntmps29
 go_wp2
 refine wp_loop_rounds 1 ?_
 rw [rounds_succ]
 go_wp2_with (go_at_call 68;refine (cJ _ _).mono ?_;rintro e w1 ⟨rfl,rfl⟩)
 go_ret
 exact ⟨rfl,rfl⟩
set_option maxHeartbeats 1000000 in
set_option maxRecDepth 100000 in
theorem Tryz.Wn (b o:Nat) (c:Nat) (l:List UInt8) (q:Option Addr) (cap:Nat) (w:World) (hb:b<w.heap.size) (h0:l≠[]) (hs:l.length≤1000) (l0:w.cell? ⟨b,o,none⟩=some (.string ⟨l.toArray⟩)) (l1:w.cell? ⟨b,o+1,none⟩=some (.slice q 0 cap)) :
  Calls Tryz.prog 29 #[.slice (some ⟨b,o,none⟩) 1 c] w fun e w'=>e = .returned (.string ⟨l.toArray⟩)∧Below w.heap.size w w':=by
 obtain ⟨i0,hi,hz0,hz1,hz2⟩:=info_parts Tryz.infoStr
 have cT:=Tryz.text0 l q cap
 go_enter Tryz.func29,Tryz.ntmps29
 go_wp2
 refine wp_loop_rounds 2 ?_
 rw [rounds_succ]
 go_wp2_with (go_at_call 28;refine (cT _ h0 hs).mono ?_;rintro e w1 ⟨rfl,hb1⟩)
 have hsz:=hb1.size
 rw [World.size_alloc] at hsz
 have hB:Below w.heap.size w w1:=((Below.refl _ w).alloc (Nat.le_refl _) _).trans (hb1.mono (by simp))
 generalize hn:(Question.appendCap 1 0 9).cut (w1.tape w1.drawn (Question.appendCap 1 0 9))=n
 obtain ⟨W,hW⟩:∃ W,((w1.alloc (Obj.cells #[Value.string { data:=l.toArray }] 9)).alloc (Obj.cells (#[Value.string { data:=l.toArray }]++Builtin.zeroCells #[Value.string { data:=#[] }] (n-1)) 9)).drew=W:=⟨_,rfl⟩
 have h:=heap_alloc_new (w1.alloc (Obj.cells #[Value.string { data:=l.toArray }] 9)) (Obj.cells (#[Value.string { data:=l.toArray }]++Builtin.zeroCells #[Value.string { data:=#[] }] (n-1)) 9)
 rw [World.size_alloc] at h
 have hh:W.heap[w1.heap.size+1]?=some (Obj.cells (#[Value.string { data:=l.toArray }]++Builtin.zeroCells #[Value.string { data:=#[] }] (n-1)) 9):=(by rw [← hW];exact h)
 clear h
 have hc:W.cell? ⟨w1.heap.size+1,0,none⟩=some (.string ⟨l.toArray⟩):=by rw [Lib.cell_of_heap hh,Array.getElem?_append_left (by simp)];rfl
 have hBW:Below w.heap.size w W:=by
  rw [← hW]
  exact (((hB.alloc (by omega) _).alloc (by simp;omega) _)).drew
 rw [hW]
 clear hW hn
 have cJ:=fun sep=>Tryz.aco ⟨w1.heap.size+1,0,none⟩ n ⟨l.toArray⟩ sep W hc
 rw [rounds_succ]
 go_wp2_with (go_at_call 68;refine (cJ _).mono ?_;rintro e w2 ⟨rfl,rfl⟩)
 go_ret
 exact ⟨rfl,hBW⟩
theorem fJ {W w1:World} {k off:Nat} {v:Value} (h:Below W.heap.size W w1) (hk:k<W.heap.size) (hc:W.cell? ⟨k,off,none⟩=some v):w1.cell? ⟨k,off,none⟩=some v:=(h.cell (p:=⟨k,off,none⟩) hk).trans hc
set_option maxHeartbeats 2000000 in
set_option maxRecDepth 100000 in
theorem Tryz.Iu (b o c:Nat) (l ps:List UInt8) (q:Option Addr) (cap:Nat) (aq:Option Addr) (an ac:Nat) (w:World) (hb:b<w.heap.size) (h0:l≠[]) (hs:l.length≤100) (hs2:ps.length≤100)
  (l0:w.cell? ⟨b,o,none⟩=some (.string ⟨l.toArray⟩)) (l1:w.cell? ⟨b,o+1,none⟩=some (.slice q 0 cap)) (l2:w.cell? ⟨b,o+2,none⟩=some (.slice aq an ac))
  (cP:∀ W,Below w.heap.size w W→Calls Tryz.prog 29 #[.slice aq an ac] W fun e w'=>e = .returned (.string ⟨ps.toArray⟩)∧Below W.heap.size W w') :
  Calls Tryz.prog 10 #[.slice (some ⟨b,o,none⟩) 1 c] w fun e w'=>e = .returned (.string ⟨(l++[58,32]++ps++[10]).toArray⟩)∧Below w.heap.size w w':=by
 have cT:=fun W=>Tryz.text0 l q cap W h0 (by omega)
 obtain ⟨t1,ht1⟩:∃ t,l++[58,32]=t:=⟨_,rfl⟩
 obtain ⟨t2,ht2⟩:∃ t,t1++ps=t:=⟨_,rfl⟩
 obtain ⟨t3,ht3⟩:∃ t,t2++[10]=t:=⟨_,rfl⟩
 have hl1:t1.length≤102:=by rw [← ht1];simp;omega
 have hl2:t2.length≤202:=by rw [← ht2];simp;omega
 have hl3:t3.length≤203:=by rw [← ht3];simp;omega
 have ht3n:t3≠[]:=by rw [← ht3];simp
 have ad1:∀ w,(Op.stringOp .add ⟨l.toArray⟩ ⟨#[58,32]⟩).run Tryz.prog w = .ok (.string ⟨t1.toArray⟩) w:=fun w=>by rw [← ht1];exact mg l [58,32] (by simp;omega) w
 have ad2:∀ w,(Op.stringOp .add ⟨t1.toArray⟩ ⟨ps.toArray⟩).run Tryz.prog w = .ok (.string ⟨t2.toArray⟩) w:=fun w=>by rw [← ht2];exact mg _ _ (by omega) w
 have ad3:∀ w,(Op.stringOp .add ⟨t2.toArray⟩ ⟨#[10]⟩).run Tryz.prog w = .ok (.string ⟨t3.toArray⟩) w:=fun w=>by rw [← ht3];exact mg t2 [10] (by simp;omega) w
 rw [ht1,ht2,ht3]
 clear ht1 ht2 ht3
 go_enter Tryz.func10,Tryz.ntmps10
 go_wp2
 refine wp_loop_rounds 2 ?_
 rw [rounds_succ]
 go_wp2_with fail
 obtain ⟨W0,hW0⟩:∃ W0,(w.alloc (.cells #[.pointer none,.slice none 0 0] 58)).alloc (.cells #[.string ⟨l.toArray⟩,.slice q 0 cap,.slice aq an ac] 30)=W0:=⟨_,rfl⟩
 have hB0:Below w.heap.size w W0:=by rw [← hW0];exact ((Below.refl _ w).alloc (Nat.le_refl _) _).alloc (by simp) _
 have hs0:W0.heap.size=w.heap.size+2:=by rw [← hW0];simp
 have hbx:W0.heap[w.heap.size+1]?=some (.cells #[.string ⟨l.toArray⟩,.slice q 0 cap,.slice aq an ac] 30 (0,0)):=by rw [← hW0];have:=heap_alloc_new (w.alloc (.cells #[.pointer none,.slice none 0 0] 58)) (.cells #[.string ⟨l.toArray⟩,.slice q 0 cap,.slice aq an ac] 30);rwa [World.size_alloc] at this
 have hbl:W0.heap[w.heap.size]?=some (.cells #[.pointer none,.slice none 0 0] 58 (0,0)):=by rw [← hW0];exact (Below.heap_alloc _ _ _ (by simp)).trans (heap_alloc_new w _)
 rw [hW0]
 have k0:W0.cell? ⟨w.heap.size+1,0,none⟩=some (.string ⟨l.toArray⟩):=by simp [World.cell?,hbx]
 have k1:W0.cell? ⟨w.heap.size+1,1,none⟩=some (.slice q 0 cap):=by simp [World.cell?,hbx]
 have k2:W0.cell? ⟨w.heap.size+1,2,none⟩=some (.slice aq an ac):=by simp [World.cell?,hbx]
 have cW:∀ (s:ByteArray) (W:World),W.heap[w.heap.size]?=some (.cells #[.pointer none,.slice none 0 0] 58 (0,0))→s.size≤1000→w.heap.size≤W.heap.size→_:=fun s W hb hs hz=>
  Tryz.VR w.heap.size w.heap.size [] s W (.pointer none) (.slice none 0 0) (.inl rfl) (Nat.le_refl _) hb ⟨rfl,.inl ⟨rfl,rfl⟩⟩ (by simp [Value.ownBlock]) (by simp;omega) hz
 clear hW0 l0 l1 l2
 go_region_held3 (fun w'=>w'.cell? ⟨w.heap.size+1,0,none⟩=some (.string ⟨l.toArray⟩)∧w'.cell? ⟨w.heap.size+1,1,none⟩=some (.slice q 0 cap)∧w'.cell? ⟨w.heap.size+1,2,none⟩=some (.slice aq an ac)) (go_keep)
  (first
   | (go_at_call 28;refine (cT _).mono ?_;rintro e w1 ⟨rfl,hb1⟩;have hz1:W0.heap.size≤w1.heap.size:=hb1.size;have m0:=fJ hb1 (show w.heap.size+1<W0.heap.size by omega) k0;have m1:=fJ hb1 (show w.heap.size+1<W0.heap.size by omega) k1;have m2:=fJ hb1 (show w.heap.size+1<W0.heap.size by omega) k2)
   | (go_at_call 29;refine (cP w1 (hB0.drew.trans (hb1.mono (by show _≤W0.heap.size;omega)))).mono ?_;rintro e w2 ⟨rfl,hb2⟩;have hz2:=hb2.size;have n0:=fJ hb2 (show w.heap.size+1<w1.heap.size by omega) m0;have n1:=fJ hb2 (show w.heap.size+1<w1.heap.size by omega) m1;have n2:=fJ hb2 (show w.heap.size+1<w1.heap.size by omega) m2;have hbl2:w2.heap[w.heap.size]?=some (.cells #[.pointer none,.slice none 0 0] 58 (0,0)):=(hb2.block _ (by omega)).trans ((hb1.block _ (show w.heap.size<W0.heap.size by omega)).trans hbl))
   | (go_at_call 27;refine (cW ⟨t3.toArray⟩ w2 hbl2 (by simp [ByteArray.size];omega) (by omega)).mono ?_;rintro e w3 ⟨rfl,⟨h3,hb3⟩,hk3⟩;have hq3:=hk3 (w.heap.size+1) (by omega) (by omega) (by simp [Value.ownBlock]);have p0:w3.cell? ⟨w.heap.size+1,0,none⟩=some (.string ⟨l.toArray⟩):=(by rw [← n0];simp only [World.cell?,hq3]);have p1:w3.cell? ⟨w.heap.size+1,1,none⟩=some (.slice q 0 cap):=(by rw [← n1];simp only [World.cell?,hq3]);have p2:w3.cell? ⟨w.heap.size+1,2,none⟩=some (.slice aq an ac):=(by rw [← n2];simp only [World.cell?,hq3])))
 rw [List.nil_append,og] at h3
 have cS:=Tryz.AP w.heap.size w.heap.size t3 w3 (.inr h3) ht3n
 have hBB:Below w.heap.size w w3:=((hB0.drew.trans (hb1.mono (show w.heap.size≤W0.heap.size by omega))).trans (hb2.mono (by omega))).trans hb3
 go_wp2
 rw [rounds_succ]
 go_wp2_with (go_at_call 30;refine cS.mono ?_;rintro e w4 ⟨rfl,hb4⟩)
 go_ret
 exact ⟨rfl,hBB.trans hb4⟩
end Go.Proofs
