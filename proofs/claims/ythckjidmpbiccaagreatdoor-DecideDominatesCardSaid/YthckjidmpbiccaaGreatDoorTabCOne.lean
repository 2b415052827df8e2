/- table.Key: a text out of numbers below a hundred. -/
import Derived.Test.YthckjidmpbiccaaGreatDoorKeyCAnd
set_option linter.unusedVariables false
set_option linter.unusedSimpArgs false
set_option linter.all false
namespace Go.Proofs
open Go.RowKit Go.Shelf
set_option maxHeartbeats 2000000 in
set_option maxRecDepth 100000 in
theorem Tryz.SX (B b:Nat) (bs:List Value) (c:Int) (w:World) (h:Lib.IsBuilder 310 5 B b bs w) (hlen:bs.length+1≤140737488355328) (hBw:B≤w.heap.size) :
  Calls Tryz.prog 359 #[.pointer (some ⟨b,0,none⟩),.int .u8 c] w fun e w'=>e = .returned .nilIface∧(Lib.BuilderAt 310 5 B b (.pointer (some ⟨b,0,none⟩)) (bs++[.int .u8 c]) w'∧Below B w w'):=by
 obtain ⟨i0,hi,hz0,hz1,hz2⟩:=info_parts Tryz.infoByteK
 have cC:=Tryz.Qh B b bs w h
 go_enter Tryz.func359,Tryz.ntmps359
 go_wp2_with (go_at_call 302;refine cC.mono ?_)
 rintro e w1 ⟨rfl,h1,hb1⟩
 obtain ⟨hB,v,hbk,hown,hne⟩:=h1
 have c0:w1.cell? ⟨b,0,none⟩=some (.pointer (some ⟨b,0,none⟩)):=by rw [Lib.cell_of_heap hbk];rfl
 have c1:w1.cell? ⟨b,1,none⟩=some v:=by rw [Lib.cell_of_heap hbk];rfl
 go_wp2_with (at_builtin;refine wpList_append_own _ rfl _ _ 308 rfl B 5 i0 (.int .u8 0) 1 1 Tryz.underlying308 hi hz0 hz1 hz2 rfl (by decide) _ _ _ rfl (hown.alloc _) ⟨w1.heap.size,0,none⟩ 1 1 [.int .u8 c] rfl rfl ?c1 ?c2 ?c3 ?c4 ?c5 ?_)
 case c1=>
  intro j u hj
  match j,hj with
  | 0,hj=>simp at hj;subst hj;simp [Addr.add]
 case c2=>intro u hu;simp at hu;subst hu;rfl
 case c3=>unfold maxLen;omega
 case c4=>omega
 case c5=>have:=hb1.size;simp;omega
 intro v' w2 hown' hgrow _
 have hlt:b<w1.heap.size:=(Array.getElem?_eq_some_iff.1 hbk).1
 have hb2:w2.heap[b]?=some (.cells #[.pointer (some ⟨b,0,none⟩),v] 310 (0,0)):=by
  rw [hgrow.block b (by simp;omega) (fun e=>hne e.symm),Lib.alloc_old w1 _ b hlt]
  exact hbk
 have d0:w2.cell? ⟨b,0,none⟩=some (.pointer (some ⟨b,0,none⟩)):=by rw [Lib.cell_of_heap hb2];rfl
 have d1:w2.cell? ⟨b,1,none⟩=some v:=by rw [Lib.cell_of_heap hb2];rfl
 have f1:w2.frozen? ⟨b,1,none⟩=false:=Lib.frozen_of_heap hb2 1
 obtain ⟨ao,n',cap,rfl⟩:∃ ao n' cap,v' = .slice ao n' cap:=by
  rcases hown'.2 with ⟨hv,_⟩ | ⟨g,cap,cur,hv,_⟩
  ·exact ⟨_,_,_,hv⟩
  ·exact ⟨_,_,_,hv⟩
 go_wp2
 go_ret
 refine ⟨rfl,?_,?_⟩
 ·exact Lib.BuilderAt.put (T:=310) (e:=5) hB hb2 (bs':=bs++[.int .u8 c]) (by simpa using hown') (by decide)
 ·exact ((hb1.alloc (by have:=hb1.size;omega) _).grown hgrow (by have:=hb1.size;simp;omega) (fun k hk=>(hown.lt k hk).1)).setCell (p:=⟨b,1,none⟩) hB _
def fE:List Nat→List UInt8
 | []=>[]
 | k::ks=>Lib.decDigits k++ks.flatMap fun k=>44::Lib.decDigits k
def zD (i:Nat) (ks:List Nat):List UInt8:=Lib.decDigits i++58::fE ks
theorem LZ (k0:Nat) (ks:List Nat) (k:Nat):fE ((k0::ks)++[k])=fE (k0::ks)++44::Lib.decDigits k:=by simp [fE]
theorem Ef:∀ ks:List Nat,(∀ k∈ks,k<100)→(fE ks).length≤3*ks.length
 | [],_=>by simp [fE]
 | k::ks,h=>by
   have h1:=eU (h k List.mem_cons_self)
   have h2:∀ ks:List Nat,(∀ k∈ks,k<100)→(ks.flatMap fun k=>44::Lib.decDigits k).length≤3*ks.length:=fun ks=>by
    induction ks with
    | nil=>intro _;simp
    | cons x ks ih=>
      intro h
      have:=eU (h x List.mem_cons_self)
      have:=ih fun y hy=>h y (List.mem_cons_of_mem _ hy)
      simp only [List.flatMap_cons,List.length_append,List.length_cons] at this ⊢
      omega
   have:=h2 ks fun y hy=>h y (List.mem_cons_of_mem _ hy)
   simp only [fE,List.length_append,List.length_cons]
   omega
theorem Tv (i:Nat) (hi:i<100) (ks:List Nat) (h:∀ k∈ks,k<100):(zD i ks).length≤3+3*ks.length:=by
 have:=eU hi
 have:=Ef ks h
 simp only [zD,List.length_append,List.length_cons]
 omega
def ait (a:Act):Nat:=match a.tmps[14]? with | some (Value.int _ n)=>n.toNat | _=>0
set_option maxHeartbeats 1000000 in
set_option maxRecDepth 100000 in
theorem Tryz.afD (i:Nat) (hi:i<100) (b0 o0:Nat) (cap:Nat) (ks:List Nat) (hks:∀ k∈ks,k<100) (hlen:ks.length≤1000) (w:World) (hb0:b0<w.heap.size) (hcell:∀ (n k:Nat),ks[n]?=some k→w.cell? ⟨b0,o0+n,none⟩=some (.int .i64 k)) :
  Calls Tryz.prog 309 #[.slice (some ⟨b0,o0,none⟩) ks.length cap,.int .i64 i] w fun e w'=>e = .returned (.string ⟨(zD i ks).toArray⟩)∧Below w.heap.size w w':=by
 have cI:=Tryz.AO i hi
 obtain ⟨di,hdi⟩:∃ di,Lib.decDigits i=di:=⟨_,rfl⟩
 have hli:di.length≤2:=by rw [← hdi];exact eU hi
 rw [hdi] at cI
 go_enter Tryz.func309,Tryz.ntmps309
 have cW:Calls Tryz.prog 223 #[.pointer (some ⟨w.heap.size,0,none⟩),.string ⟨di.toArray⟩] (w.alloc (.cells #[.pointer none,.slice none 0 0] 310)) fun e w'=>e = .returned (.tuple #[.int .i64 (di.length:Nat),.nilIface])∧(Lib.BuilderAt 310 5 w.heap.size w.heap.size (.pointer (some ⟨w.heap.size,0,none⟩)) (Lib.byteCells di) w'∧Below w.heap.size w w'):=by
  refine (Tryz.vY w.heap.size w.heap.size [] ⟨di.toArray⟩ _ (.inl ⟨Nat.le_refl _,.slice none 0 0,heap_alloc_new w _,⟨rfl,.inl ⟨rfl,rfl⟩⟩,by simp [Value.ownBlock]⟩) (by simp [ByteArray.size];omega) (by simp)).mono ?_
  rintro e w' ⟨rfl,h1,hb⟩
  rw [jJ,List.nil_append] at h1
  exact ⟨by simp [ByteArray.size],h1,((Below.refl _ w).alloc (Nat.le_refl _) _).trans hb⟩
 go_wp2_with (first
  | (go_at_call 224;refine (cI _).mono ?_;rintro e w' ⟨rfl,rfl⟩)
  | (go_at_call 223;refine cW.mono ?_;rintro e w1 ⟨rfl,h1,hb1⟩)
  | (go_at_call 359;refine (Tryz.SX w.heap.size w.heap.size _ 58 _ (.inr h1) (by simp [Lib.byteCells];omega) hb1.size).mono ?_;rintro e w2 ⟨rfl,h2,hb2⟩))
 have h2':Lib.BuilderAt 310 5 w.heap.size w.heap.size (.pointer (some ⟨w.heap.size,0,none⟩)) (Lib.byteCells (di++58::fE (ks.take 0))) w2:=by
  have e:Lib.byteCells (di++58::fE (ks.take 0))=Lib.byteCells di++[.int .u8 58]:=by simp [Lib.byteCells,fE]
  rw [e];exact h2
 have hW2:Below w.heap.size w w2:=hb1.trans hb2
 have hcell1:∀ (W:World),Below w.heap.size w W→∀ (n k:Nat),ks[n]?=some k→W.cell? ⟨b0,o0+n,none⟩=some (.int .i64 k):=fun W hW n k hk=>(hW.cell (p:=⟨b0,o0+n,none⟩) hb0).trans (hcell n k hk)
 clear cI cW h1 h2 hb1 hb2
 refine wp_loop (fun a W=>∃ (n:Nat) (d6 d7 d15 d16 d17 d18 d19 d20 d21 d22 d23 d24 d25:Value),n≤ks.length∧a={ tmps:=#[Value.slice (some ⟨b0,o0,none⟩) ks.length cap,.int .i64 i,undef,undef,.string ⟨#[]⟩,.pointer (some ⟨w.heap.size,0,none⟩),d6,d7,.int .i64 i,.string ⟨di.toArray⟩,.tuple #[.int .i64 (di.length:Nat),.nilIface],.nilIface,.slice (some ⟨b0,o0,none⟩) ks.length cap,.int .i64 ks.length,.int .i64 n,d15,d16,d17,d18,d19,d20,d21,d22,d23,d24,d25,undef],defers:=[] } ∧
   Lib.BuilderAt 310 5 w.heap.size w.heap.size (.pointer (some ⟨w.heap.size,0,none⟩)) (Lib.byteCells (di++58::fE (ks.take n))) W∧Below w.heap.size w W)
  (fun (a:Act) (_:World)=>ks.length-ait a) ?h0 ?hr
 case h0=>exact ⟨0,_,_,_,_,_,_,_,_,_,_,_,_,_,Nat.zero_le _,rfl,h2',hW2⟩
 case hr=>
  rintro a W ⟨n,d6,d7,d15,d16,d17,d18,d19,d20,d21,d22,d23,d24,d25,hn,rfl,hbu,hbe⟩
  rcases Nat.lt_or_ge n ks.length with hlt | hge
  ·have hk:ks[n]?=some ks[n]:=List.getElem?_eq_getElem hlt
   have hc:=hcell1 W hbe n _ hk
   have hkn:ks[n]<100:=hks _ (List.getElem_mem hlt)
   have cI:=Tryz.AO ks[n] hkn
   obtain ⟨dk,hdk⟩:∃ dk,Lib.decDigits ks[n]=dk:=⟨_,rfl⟩
   have hlk:dk.length≤2:=by rw [← hdk];exact eU hkn
   rw [hdk] at cI
   have hlb:(Lib.byteCells (di++58::fE (ks.take n))).length≤1000000:=by
    have h1:=Ef (ks.take n) fun k hk=>hks k (List.mem_of_mem_take hk)
    have h2:(ks.take n).length≤1000:=by simp;omega
    simp only [Lib.byteCells,List.length_map,List.length_append,List.length_cons]
    omega
   cases n with
   | zero=>
     have hsn:fE (ks.take 1)=dk:=by
      rw [List.take_succ_eq_append_getElem hlt,List.take_zero,List.nil_append]
      simp [fE,hdk]
     generalize hkk:ks[0]=kn at hc cI hk
     rw [Nat.add_zero] at hc
     rw [Int.ofNat_zero]
     have hsz:(⟨dk.toArray⟩:ByteArray).size≤2:=by simp [ByteArray.size];omega
     go_wp2_with (first
      | (go_at_call 224;refine (cI _).mono ?_;rintro e w' ⟨rfl,rfl⟩)
      | (go_at_call 223;refine (Tryz.vY w.heap.size w.heap.size _ _ _ (.inr hbu) (by omega) hbe.size).mono ?_;rintro e w3 ⟨rfl,h3,hb3⟩))
     all_goals
      refine ⟨⟨1,_,_,_,_,_,_,_,_,_,_,_,_,_,by omega,rfl,?_,hbe.trans hb3⟩,?_⟩
      ·have e:Lib.byteCells (di++58::fE (ks.take 1))=Lib.byteCells (di++58::fE (ks.take 0))++Lib.strCells ⟨dk.toArray⟩:=by rw [jJ,hsn];simp [Lib.byteCells,fE]
       rw [e];exact h3
      ·show ks.length-((0:Int)+1).toNat<ks.length-((0:Nat):Int).toNat
       omega
   | succ n=>
     have hsn:fE (ks.take (n+2))=fE (ks.take (n+1))++44::dk:=by
      rw [List.take_succ_eq_append_getElem hlt]
      cases ks with
      | nil=>simp at hlt
      | cons k0 ks=>rw [List.take_succ_cons,LZ,hdk]
     generalize hkk:ks[n+1]=kn at hc cI hk
     have hlb2:(Lib.byteCells (di++58::fE (ks.take (n+1)))++[Value.int .u8 44]).length≤1000001:=by
      rw [List.length_append];simp only [List.length_cons,List.length_nil];omega
     have hsz:(⟨dk.toArray⟩:ByteArray).size≤2:=by simp [ByteArray.size];omega
     go_wp2_with (first
      | (go_at_call 224;refine (cI _).mono ?_;rintro e w' ⟨rfl,rfl⟩)
      | (go_at_call 359;refine (Tryz.SX w.heap.size w.heap.size _ 44 _ (.inr hbu) (by omega) hbe.size).mono ?_;rintro e w3 ⟨rfl,h3,hb3⟩)
      | (go_at_call 223;refine (Tryz.vY w.heap.size w.heap.size _ _ _ (.inr h3) (by omega) (Nat.le_trans hbe.size hb3.size)).mono ?_;rintro e w4 ⟨rfl,h4,hb4⟩))
     all_goals
      refine ⟨⟨n+2,_,_,_,_,_,_,_,_,_,_,_,_,_,by omega,rfl,?_,hbe.trans (hb3.trans hb4)⟩,?_⟩
      ·have e:Lib.byteCells (di++58::fE (ks.take (n+2)))=(Lib.byteCells (di++58::fE (ks.take (n+1)))++[.int .u8 44])++Lib.strCells ⟨dk.toArray⟩:=by rw [jJ,hsn];simp [Lib.byteCells]
       rw [e];exact h4
      ·show ks.length-(((n+1:Nat):Int)+1).toNat<ks.length-((n+1:Nat):Int).toNat
       omega
  ·obtain rfl:n=ks.length:=by omega
   rw [List.take_length] at hbu
   have e:di++58::fE ks=zD i ks:=by rw [zD,hdi]
   rw [e] at hbu
   have hne:zD i ks≠[]:=by simp [zD]
   have cS:=Tryz.Fb w.heap.size w.heap.size (zD i ks) W (.inr hbu) hne
   go_wp2_with (go_at_call 225;refine cS.mono ?_;rintro e w2 ⟨rfl,hb2⟩)
   go_ret
   exact ⟨rfl,hbe.trans hb2⟩
end Go.Proofs
