/- Walks: the reader of trusted terms: signs, terms. -/
import Derived.Test.YtdonenoiehdahaaGreatGrOAnd
import Derived.Test.YtdonenoiehdahaaGreatGrBAnd
import Derived.Shelf.Sort.Plain
import Derived.Shelf.Slices.In.SortNone
import Derived.Shelf.Slices.CompactI
import Derived.Lib.RowBridge
import Derived.Ground.NamesProg
import Derived.Ground.Names2Prog
set_option linter.all false
namespace Go.Own
def qQ (rd:Nat→Str→Option (Tm×Nat)) (s:Str):Nat→Nat→List Tm→Option (List Tm×Nat)
 | 0,_,_=>none
 | g+1,j,acc=>match decide (j<s.length) with
   | false=>some (acc,j)
   | true=>match rd (xG s j) (BZ s j) with
     | none=>none
     | some (t,k)=>match rC s k 44 with
       | true=>qQ rd s g (kR s k 44) (acc++[t])
       | false=>some (acc++[t],kR s k 44)
def oO (s:Str):Nat→Nat→Str→Option (Tm×Nat)
 | 0,_,_=>none
 | f+1,i,n=>match rC s i 40 with
   | false=>some (.mk n [],kR s i 40)
   | true=>match qQ (oO s f) s 50 (kR s i 40) [] with
     | none=>none
     | some (l,k)=>some (.mk n l,kR s k 41)
theorem oV (s:Str) {i:Nat} (c:UInt8) (hi:i≤s.length):kR s i c≤s.length:=by
 have h:=oU mX s hi;unfold kR rC;cases he:s[dL mX s i]? with
 | none=>exact h.2
 | some d=>
   have:=(List.getElem?_eq_some_iff.1 he).1;dsimp only;split<;>omega
theorem yU (s:Str) {i:Nat} (hi:i≤s.length):xG s i≤s.length:=(oU qU s (oU mX s hi).2).2
end Go.Own
namespace Go.Proofs.YtdonenoiehdahaaGreat
open Go Go.Abs Go.Own
attribute [local irreducible] WP
theorem Tryz.KL (s:Str) (a:Nat) (c:UInt8) (ha:a≤s.length) (hs:s.length≤1000000) :
  aH Tryz.prog 68 [0] [.ptr 0 0,.d (.int .u8 c.toNat)] [((0,0),.cell (.d (.str s))),((0,1),.cell (.d (.int .i64 a)))] [] [.d (.bool (rC s a c))] [((0,0),.cell (.d (.str s))),((0,1),.cell (.d (.int .i64 (kR s a c))))]:=by
 refine aH.of_wp hT (nt:=_) (c:=_) Tryz.func68 rfl rfl rfl rfl (by kernel_rfl) rfl rfl ?_;intro w0 ok0 wr β0;repeat (refine gw rfl ?_;conv=>whnf)
 refine .inr ⟨_,_,_,_,_,_,Tryz.blank s a ha hs,[(0,0)],[],rfl,rfl,?_⟩;conv=>whnf
 refine ⟨rfl,rfl,?_⟩;conv=>whnf
 have hj:=oU mX s ha;have hB0:rC s a c=match s[dL mX s a]? with | some d=>(d.toNat:Int)==(c.toNat:Int) | none=>false:=rfl
 have hE0:∀ b,rC s a c=b→kR s a c=match b with | true=>dL mX s a+1 | false=>dL mX s a:=fun b e=>by rw [← e];rfl
 generalize dL mX s a=j at hj hB0 hE0;repeat (refine gw rfl ?_;conv=>whnf)
 (split<;>rename_i hb<;>(try rw [hb])<;>(conv=>whnf))
 ·have hlt:j<s.length:=by simpa using hb
  clear hb;have hg:s[((j:Nat):Int).toNat]?=some s[j]:=by simp [hlt]
  rw [List.getElem?_eq_getElem hlt] at hB0;generalize s[j]=d at hg hB0;dsimp only at hB0;refine ⟨by omega,d,hg,?_⟩;conv=>whnf
  repeat (refine gw rfl ?_;conv=>whnf)
  cases h1:((d.toNat:Int)==(c.toNat:Int)) with
  | true=>
    rw [h1] at hB0;rw [hE0 _ hB0,hB0];(conv=>whnf);(repeat (refine gw rfl ?_;conv=>whnf));refine ⟨by omega,?_⟩;(conv=>whnf);refine ⟨rfl,?_⟩;(conv=>whnf);(repeat (refine gw rfl ?_;conv=>whnf));refine ⟨[(0,some 0)],[],?_,rfl⟩;((conv=>whnf);repeat (first | exact ⟨⟩ | (refine ⟨by first | rfl | (simp;done) | (simp;omega),?_⟩;conv=>whnf)))
  | false=>
    rw [h1] at hB0;rw [hE0 _ hB0,hB0];(conv=>whnf);(repeat (refine gw rfl ?_;conv=>whnf));refine ⟨[(0,some 0)],[],?_,rfl⟩;((conv=>whnf);repeat (first | exact ⟨⟩ | (refine ⟨by first | rfl | (simp;done) | (simp;omega),?_⟩;conv=>whnf)))
 ·have hje:¬ j<s.length:=by simpa using hb
  clear hb;rw [List.getElem?_eq_none (by omega)] at hB0;rw [hE0 _ hB0,hB0];conv=>whnf
  repeat (refine gw rfl ?_;conv=>whnf)
  refine ⟨[(0,some 0)],[],?_,rfl⟩;((conv=>whnf);repeat (first | exact ⟨⟩ | (refine ⟨by first | rfl | (simp;done) | (simp;omega),?_⟩;conv=>whnf)))
def RdT (s:Str) (f:Nat):Prop:=∀ (i:Nat) (n:Str) (t:Tm) (k:Nat),i≤s.length→oO s f i n=some (t,k)→k≤s.length ∧
 aH Tryz.prog 66 [0] [.ptr 0 0,.d (.str n)] [((0,0),.cell (.d (.str s))),((0,1),.cell (.d (.int .i64 i)))] [] [.d (tD t.name t.args)] [((0,0),.cell (.d (.str s))),((0,1),.cell (.d (.int .i64 k)))]
theorem ND {s:Str} {f:Nat} (hs:s.length≤1000000) (ih:RdT s f):∀ {g j k:Nat} {acc l:List Tm},qQ (oO s f) s g j acc=some (l,k)→j≤s.length→k≤s.length
 | 0,_,_,_,_,h,_=>by cases h
 | g+1,j,k,acc,l,h,hj=>by
   unfold qQ at h;cases hd:decide (j<s.length) with
   | false=>rw [hd] at h;cases h;exact hj
   | true=>
     rw [hd] at h;dsimp only at h;cases ht:oO s f (xG s j) (BZ s j) with
     | none=>rw [ht] at h;cases h
     | some q=>
       obtain ⟨t,k2⟩:=q;rw [ht] at h;dsimp only at h;have hk:=(ih _ _ _ _ (yU s hj) ht).1;have:=oV s 44 hk;cases hb:rC s k2 44 with
       | true=>rw [hb] at h;exact ND hs ih h this
       | false=>rw [hb] at h;cases h;exact this
set_option maxRecDepth 10000 in
theorem Tryz.Yk (s:Str) (hs:s.length≤1000000):∀ f,RdT s f
 | 0=>fun i n t k _ h=>by cases h
 | f+1=>fun i n t k hi h=>by
   have ih:=Tryz.Yk s hs f;unfold oO at h;have c1:=Tryz.KL s i 40 hi hs;have h1:=oV s 40 hi;cases hb:rC s i 40 with
   | false=>
     rw [hb] at h c1;dsimp only at h;cases h;refine ⟨h1,?_⟩;refine aH.of_wp hT (nt:=_) (c:=_) Tryz.func66 rfl rfl rfl rfl (by kernel_rfl) rfl rfl ?_;intro w0 ok0 wr β0;(repeat (refine gw rfl ?_;conv=>whnf));refine ⟨rfl,?_⟩;(conv=>whnf);(repeat (refine gw rfl ?_;conv=>whnf));refine .inr ⟨_,_,_,_,_,_,c1,[(0,0)],[],rfl,rfl,?_⟩;(conv=>whnf);refine ⟨rfl,rfl,?_⟩;(conv=>whnf);refine WP.weak (l':=⟨[(0,.ptr 0 0),(4,.ptr 4 0),(5,.ptr 5 0),(11,.d (.bool true))],[((0,0),some (.cell (.d (.str s)))),((0,1),some (.cell (.d (.int .i64 (kR s i 40))))),((4,0),some (.cell (.d (.str [])))),((4,1),some (.cell (.d (.list [])))),((5,0),some (.cell (.d (.str n)))),((5,1),some (.cell (.d (.list []))))],[0,4,5]⟩) [(0,some 0),(4,some 4),(5,some 5)] [] ?_ ?_
     ·((conv=>whnf);repeat (first | exact ⟨⟩ | (refine ⟨by first | rfl | (simp;done) | (simp;omega),?_⟩;conv=>whnf)))
     (repeat (refine gw rfl ?_;conv=>whnf));refine ⟨[(0,some 0)],[],?_,rfl⟩;((conv=>whnf);repeat (first | exact ⟨⟩ | (refine ⟨by first | rfl | (simp;done) | (simp;omega),?_⟩;conv=>whnf)))
   | true=>
     rw [hb] at h c1;dsimp only at h;cases hl:qQ (oO s f) s 50 (kR s i 40) [] with
     | none=>rw [hl] at h;cases h
     | some p=>
       obtain ⟨l,k1⟩:=p;rw [hl] at h;cases h;have key:=ND hs ih hl h1;refine ⟨oV s 41 key,?_⟩;refine aH.of_wp hT (nt:=_) (c:=_) Tryz.func66 rfl rfl rfl rfl (by kernel_rfl) rfl rfl ?_;intro w0 ok0 wr β0;(repeat (refine gw rfl ?_;conv=>whnf));refine ⟨rfl,?_⟩;(conv=>whnf);(repeat (refine gw rfl ?_;conv=>whnf));refine .inr ⟨_,_,_,_,_,_,c1,[(0,0)],[],rfl,rfl,?_⟩;(conv=>whnf);refine ⟨rfl,rfl,?_⟩;(conv=>whnf);(repeat (refine gw rfl ?_;conv=>whnf));refine WP.loop (α:=Nat×Nat×List Tm) (fun y=>⟨[(0,.ptr 0 0),(4,.ptr 4 0),(5,.ptr 5 0)],[((0,0),some (.cell (.d (.str s)))),((0,1),some (.cell (.d (.int .i64 (y.2.1:Nat))))),((4,0),some (.cell (.d (.str [])))),((4,1),some (.cell (.d (.list [])))),((5,0),some (.cell (.d (.str n)))),((5,1),some (.cell (.sl 60 2 0 y.2.2.length))),((60,0),some (.arr 2 (y.2.2.map enT)))],[0,4,5,60]⟩) (fun y=>y.2.1≤s.length∧qQ (oO s f) s y.1 y.2.1 y.2.2=some (l,k1)∧y.2.2.length+y.1≤50) (fun y=>y.1) (50,kR s i 40,[]) [(0,some 0),(4,some 4),(5,some 5),(60,none)] [] ?_ ?_ ?_
       ·((conv=>whnf);repeat (first | exact ⟨⟩ | (refine ⟨by first | rfl | (simp;done) | (simp;omega),?_⟩;conv=>whnf)))
       ·exact ⟨h1,hl,Nat.le_refl _⟩
       ·rintro ⟨g,j,acc⟩ ⟨hj,ha,hg⟩;dsimp only at hj ha hg ⊢;cases g with
        | zero=>cases ha
        | succ g=>
        unfold qQ at ha;(repeat (refine gw rfl ?_;conv=>whnf));by_cases hlt:j<s.length
        ·rw [decide_eq_true hlt] at ha;rw [show decide (((j:Nat):Int)<((s.length:Nat):Int))=true from decide_eq_true (by omega)];dsimp only at ha;have hwr:=yU s hj;have cw:=Tryz.word s j hj hs;cases ht:oO s f (xG s j) (BZ s j) with
         | none=>rw [ht] at ha;cases ha
         | some q=>
           obtain ⟨t,k⟩:=q;rw [ht] at ha;dsimp only at ha;obtain ⟨hk,ct⟩:=ih _ _ _ _ hwr ht;have cs:=Tryz.KL s k 44 hk hs;have hsr:=oV s 44 hk;(conv=>whnf);(repeat (refine gw rfl ?_;conv=>whnf));refine .inr ⟨_,_,_,_,_,_,cw,[(0,0)],[],rfl,rfl,?_⟩;(conv=>whnf);refine ⟨rfl,rfl,?_⟩;(conv=>whnf);(repeat (refine gw rfl ?_;conv=>whnf));refine .inr ⟨_,_,_,_,_,_,ct,[(0,0)],[],rfl,rfl,?_⟩;(conv=>whnf);refine ⟨rfl,rfl,?_⟩;conv=>whnf
           (refine ⟨rfl,?_⟩;(conv=>whnf);refine ⟨_,(congrArg (List.take _) List.drop_zero).trans (List.take_of_length_le (by first | (simp;done) | (simp;omega))),by first | (simp;done) | (simp;omega),?_⟩;(conv=>whnf);refine ⟨_,rfl,Nat.le_refl _,?_⟩;(conv=>whnf);refine ⟨by show (_+1)*40≤_;first | (simp;done) | (simp;omega),?_⟩;(conv=>whnf))
           (repeat (refine gw rfl ?_;conv=>whnf));refine .inr ⟨_,_,_,_,_,_,cs,[(0,0)],[],rfl,rfl,?_⟩;(conv=>whnf);refine ⟨rfl,rfl,?_⟩;(conv=>whnf);cases hb2:rC s k 44 with
           | true=>
             rw [hb2] at ha;(conv=>whnf);(repeat (refine gw rfl ?_;conv=>whnf));refine ⟨(g,kR s k 44,acc++[t]),[(0,some 0),(4,some 4),(5,some 5),(60,some 31)],[],?_,⟨hsr,ha,by simp;omega⟩,by dsimp only;omega⟩;dsimp only;rw [List.map_append,List.map_singleton,bQ t,List.length_append];((conv=>whnf);repeat (first | exact ⟨⟩ | (refine ⟨by first | rfl | (simp;done) | (simp;omega),?_⟩;conv=>whnf)))
           | false=>
             rw [hb2] at ha;cases ha;have ce:=Tryz.KL s (kR s k 44) 41 hsr hs;(conv=>whnf);refine WP.weak (l':=⟨[(0,.ptr 0 0),(4,.ptr 4 0),(5,.ptr 5 0),(35,.d (.bool true))],[((0,0),some (.cell (.d (.str s)))),((0,1),some (.cell (.d (.int .i64 (kR s k 44:Nat))))),((4,0),some (.cell (.d (.str [])))),((4,1),some (.cell (.d (.list [])))),((5,0),some (.cell (.d (.str n)))),((5,1),some (.cell (.d (.list ((acc++[t]).map enT)))))],[0,4,5]⟩) [(0,some 0),(4,some 4),(5,some 5)] [31] ?_ ?_
             ·((conv=>whnf);repeat (first | exact ⟨⟩ | (refine ⟨by first | rfl | (simp;done) | (simp;omega),?_⟩;conv=>whnf)));refine ⟨(acc++[t]).map enT,by rw [List.drop_zero,List.map_append,List.map_singleton,bQ t];exact List.take_of_length_le (by simp),by simp,rfl,?_⟩;((conv=>whnf);repeat (first | exact ⟨⟩ | (refine ⟨by first | rfl | (simp;done) | (simp;omega),?_⟩;conv=>whnf)))
             (repeat (refine gw rfl ?_;conv=>whnf));refine .inr ⟨_,_,_,_,_,_,ce,[(0,0)],[],rfl,rfl,?_⟩;(conv=>whnf);refine ⟨rfl,rfl,?_⟩;(conv=>whnf);(repeat (refine gw rfl ?_;conv=>whnf));refine ⟨[(0,some 0)],[],?_,rfl⟩;((conv=>whnf);repeat (first | exact ⟨⟩ | (refine ⟨by first | rfl | (simp;done) | (simp;omega),?_⟩;conv=>whnf)))
        ·rw [decide_eq_false hlt] at ha;rw [show decide (((j:Nat):Int)<((s.length:Nat):Int))=false from decide_eq_false (by omega)];cases ha;have ce:=Tryz.KL s k1 41 hj hs;(conv=>whnf);refine WP.weak (l':=⟨[(0,.ptr 0 0),(4,.ptr 4 0),(5,.ptr 5 0)],[((0,0),some (.cell (.d (.str s)))),((0,1),some (.cell (.d (.int .i64 (k1:Nat))))),((4,0),some (.cell (.d (.str [])))),((4,1),some (.cell (.d (.list [])))),((5,0),some (.cell (.d (.str n)))),((5,1),some (.cell (.d (.list ((l).map enT)))))],[0,4,5]⟩) [(0,some 0),(4,some 4),(5,some 5)] [60] ?_ ?_
         ·((conv=>whnf);repeat (first | exact ⟨⟩ | (refine ⟨by first | rfl | (simp;done) | (simp;omega),?_⟩;conv=>whnf)));refine ⟨(l).map enT,by rw [List.drop_zero];exact List.take_of_length_le (by simp),by simp,rfl,?_⟩;((conv=>whnf);repeat (first | exact ⟨⟩ | (refine ⟨by first | rfl | (simp;done) | (simp;omega),?_⟩;conv=>whnf)))
         (repeat (refine gw rfl ?_;conv=>whnf));refine .inr ⟨_,_,_,_,_,_,ce,[(0,0)],[],rfl,rfl,?_⟩;(conv=>whnf);refine ⟨rfl,rfl,?_⟩;(conv=>whnf);(repeat (refine gw rfl ?_;conv=>whnf));refine ⟨[(0,some 0)],[],?_,rfl⟩;((conv=>whnf);repeat (first | exact ⟨⟩ | (refine ⟨by first | rfl | (simp;done) | (simp;omega),?_⟩;conv=>whnf)))
set_option maxRecDepth 10000 in
theorem Tryz.V7 (s:Str) (f:Nat) (l:List Tm) (k1:Nat) (hs:s.length≤1000000) (hl:qQ (oO s f) s 50 0 []=some (l,k1)) :
  Pure Tryz.prog 26 [.str s] [.list (l.map enT)]:=by
 have ih:=Tryz.Yk s hs f;refine Pure.of_wp hT (nt:=_) (c:=_) Tryz.func26 rfl rfl rfl rfl (by kernel_rfl) ?_;intro w0 ok0 β0
 iterate 3
  refine gw rfl ?_;conv=>whnf
 refine W2 hT hM [7] ?_;conv=>whnf
 refine ⟨rfl,?_⟩;conv=>whnf
 repeat (refine gw rfl ?_;conv=>whnf)
 refine WP.loop (α:=Nat×Nat×List Tm) (fun y=>⟨[(3,.ptr 7 0),(4,.sl 60 2 0 y.2.2.length)],[((7,0),some (.cell (.d (.str s)))),((7,1),some (.cell (.d (.int .i64 (y.2.1:Nat))))),((60,0),some (.arr 2 (y.2.2.map enT)))],[7,60]⟩) (fun y=>y.2.1≤s.length∧qQ (oO s f) s y.1 y.2.1 y.2.2=some (l,k1)∧y.2.2.length+y.1≤50) (fun y=>y.1) (50,0,[]) [(7,some 7),(60,none)] [] ?_ ?_ ?_
 ·((conv=>whnf);repeat (first | exact ⟨⟩ | (refine ⟨by first | rfl | (simp;done) | (simp;omega),?_⟩;conv=>whnf)))
 ·exact ⟨Nat.zero_le _,hl,Nat.le_refl _⟩
 ·rintro ⟨g,j,acc⟩ ⟨hj,ha,hg⟩;dsimp only at hj ha hg ⊢;cases g with
  | zero=>cases ha
  | succ g=>
  unfold qQ at ha;repeat (refine gw rfl ?_;conv=>whnf)
  by_cases hlt:j<s.length
  ·rw [decide_eq_true hlt] at ha;rw [show decide (((j:Nat):Int)<((s.length:Nat):Int))=true from decide_eq_true (by omega)];dsimp only at ha;have hwr:=yU s hj;have cw:=Tryz.word s j hj hs;cases ht:oO s f (xG s j) (BZ s j) with
   | none=>rw [ht] at ha;cases ha
   | some q=>
     obtain ⟨t,k⟩:=q;rw [ht] at ha;dsimp only at ha;obtain ⟨hk,ct⟩:=ih _ _ _ _ hwr ht;have cs:=Tryz.KL s k 44 hk hs;have hsr:=oV s 44 hk;(conv=>whnf);(repeat (refine gw rfl ?_;conv=>whnf));refine .inr ⟨_,_,_,_,_,_,cw,[(0,7)],[],rfl,rfl,?_⟩;(conv=>whnf);refine ⟨rfl,rfl,?_⟩;(conv=>whnf);refine .inr ⟨_,_,_,_,_,_,ct,[(0,7)],[],rfl,rfl,?_⟩;(conv=>whnf);refine ⟨rfl,rfl,?_⟩;conv=>whnf
     (refine ⟨rfl,?_⟩;(conv=>whnf);refine ⟨_,(congrArg (List.take _) List.drop_zero).trans (List.take_of_length_le (by first | (simp;done) | (simp;omega))),by first | (simp;done) | (simp;omega),?_⟩;(conv=>whnf);refine ⟨_,rfl,Nat.le_refl _,?_⟩;(conv=>whnf);refine ⟨by show (_+1)*40≤_;first | (simp;done) | (simp;omega),?_⟩;(conv=>whnf))
     (repeat (refine gw rfl ?_;conv=>whnf));refine .inr ⟨_,_,_,_,_,_,cs,[(0,7)],[],rfl,rfl,?_⟩;(conv=>whnf);refine ⟨rfl,rfl,?_⟩;(conv=>whnf);cases hb2:rC s k 44 with
     | true=>
       rw [hb2] at ha;(conv=>whnf);(repeat (refine gw rfl ?_;conv=>whnf));refine ⟨(g,kR s k 44,acc++[t]),[(7,some 7),(60,some 24)],[],?_,⟨hsr,ha,by simp;omega⟩,by dsimp only;omega⟩;dsimp only;rw [List.map_append,List.map_singleton,bQ t,List.length_append];((conv=>whnf);repeat (first | exact ⟨⟩ | (refine ⟨by first | rfl | (simp;done) | (simp;omega),?_⟩;conv=>whnf)))
     | false=>
       rw [hb2] at ha;cases ha;(conv=>whnf);(repeat (refine gw rfl ?_;conv=>whnf));refine ⟨(acc++[t]).map enT,by rw [List.drop_zero,List.map_append,List.map_singleton,bQ t];exact List.take_of_length_le (by simp),by simp,?_⟩;conv=>whnf
  ·rw [decide_eq_false hlt] at ha;rw [show decide (((j:Nat):Int)<((s.length:Nat):Int))=false from decide_eq_false (by omega)];cases ha;(conv=>whnf);(repeat (refine gw rfl ?_;conv=>whnf));refine ⟨(l).map enT,by rw [List.drop_zero];exact List.take_of_length_le (by simp),by simp,?_⟩;conv=>whnf
end Go.Proofs.YtdonenoiehdahaaGreat
namespace Go.Own
def YI:Str:=[112,44,32,113,44,32,116,101,114,109,105,110,97,108,44,32,110,101,120,116,40,115,41,44,32,116,114,117,101,40,115,41,44,32,100,111,101,115,40,120,44,32,97,41,44,32,108,101,103,97,108,40,120,44,32,97,41]
def tS:Tm := .mk [115] []
def tX:Tm := .mk [120] []
def tA:Tm := .mk [97] []
def aN:List Tm:=[.mk [112] [],.mk [113] [],.mk [116,101,114,109,105,110,97,108] [],.mk [110,101,120,116] [tS],.mk [116,114,117,101] [tS],.mk [100,111,101,115] [tX,tA],.mk [108,101,103,97,108] [tX,tA]]
def dS:List Gr:=[(0,[1],[]),(1,[],[4]),(1,[0],[]),(2,[0],[]),(3,[4,5],[]),(6,[4],[])]
def dJ:List Tm:=[tX]
theorem ZQ:qQ (oO YI 5) YI 50 0 []=some (aN,57):=by rfl
theorem ZP:qQ (oO [120] 5) [120] 50 0 []=some (dJ,1):=by rfl
end Go.Own
namespace Go.Proofs.YtdonenoiehdahaaGreat
open Go Go.Abs Go.Own
attribute [local irreducible] WP
set_option maxRecDepth 10000 in
theorem Tryz.sample:Pure Tryz.prog 25 [] [gD aN dS]:=by
 refine Pure.of_wp hT (nt:=_) (c:=_) Tryz.func25 rfl rfl rfl rfl (by kernel_rfl) ?_;intro w0 ok0 β0
 iterate 3
  refine gw rfl ?_;conv=>whnf
 refine W2 hT hM [2,4,6,8,10,12,14] ?_;conv=>whnf
 refine .inl ⟨_,Tryz.V7 YI 5 aN 57 (by decide) ZQ,.inl rfl,?_⟩;conv=>whnf
 repeat
  refine ⟨rfl,?_⟩;conv=>whnf
 repeat (refine gw rfl ?_;conv=>whnf)
 rfl
end Go.Proofs.YtdonenoiehdahaaGreat
namespace Go.Proofs
open Go.Shelf
def Tryz.sortI_ren:Go.Shelf.Ren:=⟨fun | 189=>143 | 125=>157 | 257=>156 | 128=>173 | 129=>174 | 294=>165 | 295=>166 | 296=>167 | 297=>168 | 298=>169 | 299=>170 | 216=>116 | 300=>171 | 301=>172 | 328=>185 | 329=>186 | 330=>187 | 331=>188 | 332=>189 | 215=>134 | 343=>200 | n=>n,fun | 28=>38 | 3=>3 | 46=>163 | 0=>0 | 51=>213 | 53=>47 | 4=>4 | 183=>207 | 182=>206 | 131=>103 | 5=>5 | 9=>9 | 218=>218 | 222=>222 | 228=>231 | 229=>232 | n=>n,fun | n=>n⟩
theorem Tryz.qZ:Go.Proofs.Lays.n189 Tryz.prog Tryz.sortI_ren:={
 mixed:=by kernel_rfl
 f125:=Tryz.func157.trans (congrArg some (by kernel_rfl))
 f128:=Tryz.func173.trans (congrArg some (by kernel_rfl))
 f129:=Tryz.func174.trans (congrArg some (by kernel_rfl))
 f189:=Tryz.func143.trans (congrArg some (by kernel_rfl))
 f215:=Tryz.func134.trans (congrArg some (by kernel_rfl))
 f216:=Tryz.func116.trans (congrArg some (by kernel_rfl))
 f257:=Tryz.func156.trans (congrArg some (by kernel_rfl))
 f294:=Tryz.func165.trans (congrArg some (by kernel_rfl))
 f295:=Tryz.func166.trans (congrArg some (by kernel_rfl))
 f296:=Tryz.func167.trans (congrArg some (by kernel_rfl))
 f297:=Tryz.func168.trans (congrArg some (by kernel_rfl))
 f298:=Tryz.func169.trans (congrArg some (by kernel_rfl))
 f299:=Tryz.func170.trans (congrArg some (by kernel_rfl))
 f300:=Tryz.func171.trans (congrArg some (by kernel_rfl))
 f301:=Tryz.func172.trans (congrArg some (by kernel_rfl))
 f328:=Tryz.func185.trans (congrArg some (by kernel_rfl))
 f329:=Tryz.func186.trans (congrArg some (by kernel_rfl))
 f330:=Tryz.func187.trans (congrArg some (by kernel_rfl))
 f331:=Tryz.func188.trans (congrArg some (by kernel_rfl))
 f332:=Tryz.func189.trans (congrArg some (by kernel_rfl))
 f343:=Tryz.func200.trans (congrArg some (by kernel_rfl))
 t0:=Tryz.underlying0
 a0:=Tryz.isAgg0
 z0:=Tryz.sizeOf0
 v0:=Tryz.zeroValue0
 t3:=Tryz.underlying3
 a3:=Tryz.isAgg3
 z3:=Tryz.sizeOf3
 v3:=Tryz.zeroValue3
 t4:=Tryz.underlying4
 a4:=Tryz.isAgg4
 z4:=Tryz.sizeOf4
 v4:=Tryz.zeroValue4
 t5:=Tryz.underlying5
 a5:=Tryz.isAgg5
 z5:=Tryz.sizeOf5
 v5:=Tryz.zeroValue5
 t9:=Tryz.underlying9
 a9:=Tryz.isAgg9
 z9:=Tryz.sizeOf9
 v9:=Tryz.zeroValue9
 t28:=Tryz.underlying38
 a28:=Tryz.isAgg38
 z28:=Tryz.sizeOf38
 v28:=Tryz.zeroValue38
 t46:=Tryz.underlying163
 a46:=Tryz.isAgg163
 z46:=Tryz.sizeOf163
 v46:=Tryz.zeroValue163
 t51:=Tryz.underlying213
 a51:=Tryz.isAgg213
 z51:=Tryz.sizeOf213
 v51:=Tryz.zeroValue213
 t53:=Tryz.underlying47
 a53:=Tryz.isAgg47
 z53:=Tryz.sizeOf47
 v53:=Tryz.zeroValue47
 t131:=Tryz.underlying103
 a131:=Tryz.isAgg103
 z131:=Tryz.sizeOf103
 v131:=Tryz.zeroValue103
 t182:=Tryz.underlying206
 a182:=Tryz.isAgg206
 z182:=Tryz.sizeOf206
 v182:=Tryz.zeroValue206
 t183:=Tryz.underlying207
 a183:=Tryz.isAgg207
 z183:=Tryz.sizeOf207
 v183:=Tryz.zeroValue207
 t218:=Tryz.underlying218
 a218:=Tryz.isAgg218
 z218:=Tryz.sizeOf218
 v218:=Tryz.zeroValue218
 t222:=Tryz.underlying222
 a222:=Tryz.isAgg222
 z222:=Tryz.sizeOf222
 v222:=Tryz.zeroValue222
 t228:=Tryz.underlying231
 a228:=Tryz.isAgg231
 z228:=Tryz.sizeOf231
 v228:=Tryz.zeroValue231
 t229:=Tryz.underlying232
 a229:=Tryz.isAgg232
 z229:=Tryz.sizeOf232
 v229:=Tryz.zeroValue232 }
def Tryz.compactI_ren:Go.Shelf.Ren:=⟨fun | 20=>144 | n=>n,fun | 22=>38 | 3=>3 | 4=>4 | 0=>0 | n=>n,fun | n=>n⟩
theorem Tryz.compactI:Go.Proofs.Lays2.n20 Tryz.prog Tryz.compactI_ren:={
 mixed:=by kernel_rfl
 f20:=Tryz.func144.trans (congrArg some (by kernel_rfl))
 t0:=Tryz.underlying0
 a0:=Tryz.isAgg0
 z0:=Tryz.sizeOf0
 v0:=Tryz.zeroValue0
 t3:=Tryz.underlying3
 a3:=Tryz.isAgg3
 z3:=Tryz.sizeOf3
 v3:=Tryz.zeroValue3
 t4:=Tryz.underlying4
 a4:=Tryz.isAgg4
 z4:=Tryz.sizeOf4
 v4:=Tryz.zeroValue4
 t22:=Tryz.underlying38
 a22:=Tryz.isAgg38
 z22:=Tryz.sizeOf38
 v22:=Tryz.zeroValue38
 i3:=by kernel_rfl }
end Go.Proofs
namespace Go.Proofs.YtdonenoiehdahaaGreat
open Go Go.Abs Go.Own Go.RowKit
attribute [local irreducible] WP
def kkV:Option Nat→List V
 | none=>[]
 | some k=>[.sl 0 1 0 k]
def kkR (a:Option Addr) (cap:Nat):Option Nat→Value
 | none => .tuple #[]
 | some k => .slice a k cap
theorem OD {w w':World} {n blk off:Nat} {d:Array Int} {os:Array Obj} (e:w'=Sort.grow (Sort.putRow (Value.int .i64) (Sort.ahead w n) blk off d) os) {b:Nat} (hb:b<w.heap.size) :
  w'.heap[b]?=if blk=b then (w.heap[b]?).map (Sort.onCells (Sort.putCells (Value.int .i64) off d)) else w.heap[b]?:=by
 subst e;show ((w.heap.modify blk (Sort.onCells (Sort.putCells (Value.int .i64) off d)))++os)[b]?=_;rw [Array.getElem?_append_left (by simpa using hb),Array.getElem?_modify]
theorem L9 {P:Program} {f:FuncId} {l l':List Int} {kk:Option Nat} (hth:∃ fn,P.funcs[f]?=some fn∧(fn.name == "runtime.NumGoroutine")=false∧fn.body.isNone=false)
  (hl:l'.length=l.length) (hk:∀ k,kk=some k→k≤l.length)
  (h0:l=[]→∀ a cap w,Calls P f #[.slice a 0 cap] w fun e w'=>e = .returned (kkR a cap kk)∧w'=w)
  (h1:∀ blk off cap w,Sort.Holds (Value.int .i64) w blk off l.toArray→blk<w.heap.size→l.length≤cap→Calls P f #[.slice (some ⟨blk,off,none⟩) l.length cap] w fun e w'=>
   e = .returned (kkR (some ⟨blk,off,none⟩) cap kk)∧∃ n os,w'=Sort.grow (Sort.putRow (Value.int .i64) (Sort.ahead w n) blk off l'.toArray) os) :
  aH P f [0] [.sl 0 1 0 l.length] [((0,0),.arr 1 (l.map enI))] [] (kkV kk) [((0,0),.arr 1 (l'.map enI))]:=by
 refine ⟨hth,fun k r h=>?_,fun β ok w vs hgl hokb hsz has hpre hsep hinj=>?_⟩
 ·simp only [List.mem_cons,Prod.mk.injEq,List.not_mem_nil,or_false] at h;rw [h.2];rfl
 obtain ⟨v0,rfl⟩:∃ v0,vs=#[v0]:=by
  have h3:vs.size=1:=hsz;exact ⟨vs[0],by apply Array.ext (by simpa using h3);intro i h1 h2;match i,h2 with | 0,_=>rfl⟩
 have hv0:=has 0 v0 _ rfl rfl;obtain ⟨hu0,ho0⟩:=hpre (0,0) (.arr 1 (l.map enI)) (by simp);have hs0:=fun b=>hsep (0,0) _ b (List.mem_singleton.2 rfl)
 obtain ⟨_,a0,cap0,e1,e2,e3,e4,e5,e6⟩:=ho0;have e1:β 0 = .slice a0 (l.map enI).length cap0:=e1;rw [List.length_map] at e1 e2;have one:∀ (k k':Key) (r r':Res),(k,r)∈[(((0,0):Key),Res.arr 1 (l'.map enI))]→(k',r')∈[(((0,0):Key),Res.arr 1 (l'.map enI))]→k.1=k'.1:=fun k k' r r' hm hm'=>by
  simp only [List.mem_cons,Prod.mk.injEq,List.not_mem_nil,or_false] at hm hm';rw [hm.1,hm'.1]
 have wr0:∀ b,aB (β 0)=some b→∀ o,jV β [((0,0),.arr 1 (l.map enI))] b o:=fun b hb o=>⟨(0,0),_,List.mem_singleton.2 rfl,hb,trivial⟩
 have fin:∀ (w':World) (a:Option Addr),(cap0=0∨a=a0)→(∀ b,ok b→w'.heap[b]?=w.heap[b]?)→w.heap.size≤w'.heap.size→Abs.Frame (jV β [((0,0),.arr 1 (l.map enI))]) w w'→bT ok w' (β 0) 1 (l'.map enI) →
   ∃ v β' ok',Ending.returned (kkR a cap0 kk) = .returned v∧(∀ i,i∈[0]→β' i=β i)∧RdV β' (fun i=>i∈[0]∨i∈[]) ok' w' v (resV (kkV kk)) ∧
   (∀ k r,(k,r)∈[(((0,0):Key),Res.arr 1 (l'.map enI))]→(k.1∈[0]∨k.1∈[])∧Own β' (fun i=>i∈[0]∨i∈[]) ok' w' k r) ∧
   (∀ k r b,(k,r)∈[(((0,0):Key),Res.arr 1 (l'.map enI))]→aB (β' k.1)=some b→¬ ok' b∧b<w'.heap.size∧(b<w.heap.size→match r with | .cell _=>k.1∈[0]∧jV β [((0,0),.arr 1 (l.map enI))] b k.2 | _=>∀ o,jV β [((0,0),.arr 1 (l.map enI))] b o)) ∧
   (∀ k k' r r' b,(k,r)∈[(((0,0):Key),Res.arr 1 (l'.map enI))]→(k',r')∈[(((0,0):Key),Res.arr 1 (l'.map enI))]→aB (β' k.1)=some b→aB (β' k'.1)=some b→k.1=k'.1) ∧
   (∀ b,ok' b→b<w'.heap.size)∧(∀ b,ok b→ok' b)∧(∀ b,ok' b→ok b∨w.heap.size≤b∨∀ o,jV β [((0,0),.arr 1 (l.map enI))] b o)∧Abs.Frame (jV β [((0,0),.arr 1 (l.map enI))]) w w':=fun w' a ha hkeep hsize hfr hown=>by
  refine ⟨_,β,ok,rfl,fun _ _=>rfl,?_,fun k r hm=>?_,fun k r b hm hb=>?_,fun k k' r r' b hm hm' _ _=>one k k' r r' hm hm',fun b hb=>Nat.lt_of_lt_of_le (hokb b hb) hsize,fun _ h=>h,fun b hb => .inl hb,hfr⟩
  ·cases kk with
   | none=>exact .tuple #[] [] rfl (fun i v c hv=>by simp at hv)
   | some k=>
     have hkl:=hk k rfl
     have:=RdV.sl (β:=β) (u:=fun i=>i∈[0]∨i∈([]:List Nat)) (ok:=ok) (w:=w') 0 1 0 k l.length cap0 a0 a (.inl (by simp)) e1 (by omega) e3 (fun hc=>by
      rcases ha with ha | ha
      ·omega
      ·obtain ⟨b,o,cur,T,f1,_⟩:=e6 hc
       exact ⟨b,o,f1,by rw [ha,f1];simp⟩)
     rw [Nat.sub_zero] at this;exact this
  ·simp only [List.mem_cons,Prod.mk.injEq,List.not_mem_nil,or_false] at hm;obtain ⟨rfl,rfl⟩:=hm;exact ⟨.inl (by simp),rfl,hown⟩
  ·simp only [List.mem_cons,Prod.mk.injEq,List.not_mem_nil,or_false] at hm;obtain ⟨rfl,rfl⟩:=hm;exact ⟨(hs0 b hb).1,Nat.lt_of_lt_of_le (hs0 b hb).2 hsize,fun _=>wr0 b hb⟩
 cases hv0 with
 | sl _ _ _ _ n cap a1 a q1 q2 q3 q4 q5=>
   rw [e1] at q2;simp only [Value.slice.injEq] at q2;obtain ⟨rfl,rfl,rfl⟩:=q2;rw [Nat.sub_zero];by_cases hnil:l=[]
   ·refine (show Calls P f #[.slice a l.length cap0] w _ from by rw [hnil];exact h0 hnil a cap0 w).mono ?_;rintro e w' ⟨rfl,rfl⟩;have hl':l'=[]:=List.length_eq_zero_iff.1 (by rw [hl,hnil];rfl);refine fin w' a ?_ (fun _ _=>rfl) (Nat.le_refl _) (Abs.Frame.refl _ _) ?_
    ·rcases Nat.eq_zero_or_pos cap0 with hc | hc
     ·exact .inl hc
     ·obtain ⟨b,o,f1,f2⟩:=q5 hc;exact .inr (by rw [f1,f2];simp)
    ·rw [hl']
     exact ⟨a0,cap0,by rw [e1,hnil];rfl,Nat.zero_le _,e3,e4,fun i x hx=>by simp at hx,fun hc=>by
      obtain ⟨b,o,cur,T,f1,f2,f3,_⟩:=e6 hc
      exact ⟨b,o,cur,T,f1,f2,f3,fun i x j c hx=>by simp at hx⟩⟩
   ·have hpos:0<l.length:=List.length_pos_iff.2 hnil;have hc:0<cap0:=(by omega);obtain ⟨b,o,f1,f2⟩:=q5 hc;obtain ⟨b',o',cur,T,g1,g2,g3,g4⟩:=e6 hc;rw [f1] at g1;simp only [Option.some.injEq,Addr.mk.injEq,and_true] at g1;obtain ⟨rfl,rfl⟩:=g1;have f2:a=some ⟨b,o,none⟩:=(by rw [f2];simp);subst f2;have hbk:aB (β 0)=some b:=by
     rw [e1,f1];obtain ⟨c,rfl⟩:∃ c,cap0=c+1:=⟨cap0-1,by omega⟩
     rfl
    have hlt:=(hs0 b hbk).2;have hcur:∀ j (hj:j<l.length),cur[o+j]?=some (.int .i64 l[j]):=fun j hj=>by
     have hx:(l.map enI)[j]?=some (enI l[j]):=(by simp [hj]);obtain ⟨u,k1,k2,_⟩:=g4 j _ 0 (.int .i64 l[j]) hx rfl;have:u = .int .i64 l[j]:=(by cases k2;rfl);subst this
     simpa using k1
    have hH:Sort.Holds (Value.int .i64) w b o l.toArray:=fun j hj=>by
     have hj':j<l.length:=(by simpa using hj);refine ⟨?_,?_⟩
     ·rw [cell_of_row w b _ cur T (0,0) g2,hcur j hj'];simp [hj']
     ·unfold World.frozen?;rw [g2];simp
    refine (h1 b o cap0 w hH hlt e2).mono ?_;rintro e w' ⟨rfl,n,os,ew⟩;have hat:=fun {b1:Nat} (hb1:b1<w.heap.size)=>OD ew hb1
    have hsz:w.heap.size≤w'.heap.size:=by
     rw [ew];show _≤((w.heap.modify b (Sort.onCells (Sort.putCells (Value.int .i64) o l'.toArray)))++os).size;simp
    have hsame:∀ b1,b1<w.heap.size→b1≠b→w'.heap[b1]?=w.heap[b1]?:=fun b1 hb1 hne=>by rw [hat hb1,if_neg (fun e=>hne e.symm)]
    have hnew:w'.heap[b]?=some (.cells (Sort.putCells (Value.int .i64) o l'.toArray cur) T (0,0)):=(by rw [hat hlt,if_pos rfl,g2];rfl);have hok:∀ b1,ok b1→b1≠b:=fun b1 h e=>(hs0 b hbk).1 (e ▸ h)
    refine fin w' (some ⟨b,o,none⟩) (.inr f1.symm) (fun b1 h=>hsame b1 (hokb b1 h) (hok b1 h)) hsz ?_ ?_
    ·refine ⟨by rw [ew];rfl,by rw [ew];rfl,by rw [ew];rfl,hsz,fun b1 hb1 hn=>hsame b1 hb1 (fun e=>hn 0 (wr0 b1 (e ▸ hbk) 0)),fun b1 c T1 fz hbc=>?_⟩;have hb1:=(Array.getElem?_eq_some_iff.1 hbc).1;by_cases hbe:b1=b
     ·subst hbe;rw [g2] at hbc;cases hbc;exact ⟨_,hnew,by simp [Sort.putCells],fun o1 hn=>absurd (wr0 b1 hbk o1) hn⟩
     ·exact ⟨c,(hsame b1 hb1 hbe).trans hbc,rfl,fun _ _=>rfl⟩
    ·refine ⟨a0,cap0,by rw [e1,List.length_map,hl],by rw [List.length_map,hl];exact e2,e3,e4,fun i x hx=>?_,fun _=>⟨b,o,_,T,f1,hnew,by simpa [Sort.putCells] using g3,fun i x j c hx hcc=>?_⟩⟩
     ·simp only [List.getElem?_map,Option.map_eq_some_iff] at hx;obtain ⟨y,_,rfl⟩:=hx;rfl
     ·simp only [List.getElem?_map,Option.map_eq_some_iff] at hx;obtain ⟨y,hy,rfl⟩:=hx;cases j with
      | succ j=>simp [enI,D.cells] at hcc
      | zero=>
        simp [enI,D.cells] at hcc;subst hcc;obtain ⟨hi,hy⟩:=List.getElem?_eq_some_iff.1 hy;refine ⟨.int .i64 y,?_,.int _ _,rfl,rfl⟩;have hc1:=hcur i (by omega);obtain ⟨hlc,_⟩:=Array.getElem?_eq_some_iff.1 hc1;simp only [Nat.mul_one,Nat.add_zero];unfold Sort.putCells;rw [Array.getElem?_mapIdx,Array.getElem?_eq_getElem hlc];simp only [Option.map_some];rw [if_pos ⟨by omega,by simp;omega⟩];simp [hi,hy]
def qZ (l:List Int):List Int:=l.mergeSort fun x y=>decide (x≤y)
theorem Tryz.ZM (l:List Int) (hl:l.length≤1000000) :
  aH Tryz.prog 143 [0] [.sl 0 1 0 l.length] [((0,0),.arr 1 (l.map enI))] [] [] [((0,0),.arr 1 ((qZ l).map enI))]:=by
 refine L9 (l:=l) (l':=qZ l) (kk:=none) ⟨_,Tryz.func143,by kernel_rfl,rfl⟩ (by simp [qZ]) (fun k e=>by cases e) (fun _ a cap w=>?_) (fun blk off cap w hH hb _=>?_)
 ·exact (Any.slices_Sort_int_none Tryz.qZ a cap w).mono fun e w' h=>h
 ·exact Any.slices_Sort_int Tryz.qZ blk off cap l w hH hb (by omega)
theorem Tryz.VR (l:List Int) (hl:l.length≤1000000) :
  aH Tryz.prog 144 [0] [.sl 0 1 0 l.length] [((0,0),.arr 1 (l.map enI))] [] [.sl 0 1 0 (Lib.compact l).length] [((0,0),.arr 1 ((Lib.compact l++List.replicate (l.length-(Lib.compact l).length) 0).map enI))]:=by
 have hle:=Lib.compact_length_le l;refine L9 (l:=l) (l':=Lib.compact l++List.replicate (l.length-(Lib.compact l).length) 0) (kk:=some (Lib.compact l).length) ⟨_,Tryz.func144,by kernel_rfl,rfl⟩ (by simp;omega) (fun k e=>by cases e;exact hle) (fun hn a cap w=>?_) (fun blk off cap w hH hb hc=>?_)
 ·subst hn;exact (Any.slices_Compact_int_empty Tryz.compactI a cap w).mono fun e w' h=>h
 ·refine (Any.slices_Compact_int Tryz.compactI blk off cap l w hH (by omega) hc).mono ?_;rintro e w' ⟨h1,q,h2⟩;exact ⟨h1,q,#[],by rw [Sort.grow_empty];exact h2⟩
end Go.Proofs.YtdonenoiehdahaaGreat
namespace Go.Own
def JA (x:Int):List Int→List Int
 | []=>[x]
 | y::l=>if x<y then x::y::l else if x=y then y::l else y::JA x l
def nrm:List Int→List Int
 | []=>[]
 | x::l=>JA x (nrm l)
theorem D5 {x y:Int}:∀ {l:List Int},y∈JA x l↔y=x∨y∈l
 | []=>by simp [JA]
 | z::l=>by
   unfold JA;split
   ·simp
   ·split
    ·rename_i h;subst h;simp
    ·rw [List.mem_cons,D5 (l:=l),List.mem_cons];constructor
     ·rintro (h | h | h)
      ·exact .inr (.inl h)
      ·exact .inl h
      ·exact .inr (.inr h)
     ·rintro (h | h | h)
      ·exact .inr (.inl h)
      ·exact .inl h
      ·exact .inr (.inr h)
theorem LZ {x:Int}:∀ {l:List Int},l.Pairwise (·<·)→(JA x l).Pairwise (·<·)
 | [],_=>by simp [JA]
 | z::l,h=>by
   obtain ⟨h1,h2⟩:=List.pairwise_cons.1 h;unfold JA;split
   ·rename_i hx;refine List.pairwise_cons.2 ⟨fun y hy=>?_,h⟩;rcases List.mem_cons.1 hy with rfl | hy
    ·exact hx
    ·have:=h1 y hy;omega
   ·split
    ·exact h
    ·refine List.pairwise_cons.2 ⟨fun y hy=>?_,LZ h2⟩;rcases D5.1 hy with rfl | hy
     ·omega
     ·exact h1 y hy
theorem Jm:∀ l:List Int,(nrm l).Pairwise (·<·)
 | [] => .nil
 | x::l=>LZ (Jm l)
theorem qx {x:Int}:∀ {l:List Int},x∈nrm l↔x∈l
 | []=>Iff.rfl
 | y::l=>by
   show x∈JA y (nrm l)↔_;rw [D5,qx (l:=l),List.mem_cons]
theorem Rl:∀ {l m:List Int},l.Pairwise (·<·)→m.Pairwise (·<·)→(∀ x,x∈l↔x∈m)→l=m
 | [],[],_,_,_=>rfl
 | [],y::m,_,_,h=>by have:=(h y).2 (by simp);cases this
 | x::l,[],_,_,h=>by have:=(h x).1 (by simp);cases this
 | x::l,y::m,hl,hm,h=>by
   obtain ⟨h1,h2⟩:=List.pairwise_cons.1 hl;obtain ⟨h3,h4⟩:=List.pairwise_cons.1 hm;have e:x=y:=by
    rcases List.mem_cons.1 ((h x).1 (by simp)) with e | hx
    ·exact e
    ·rcases List.mem_cons.1 ((h y).2 (by simp)) with e | hy
     ·exact e.symm
     ·have:=h1 y hy;have:=h3 x hx;omega
   subst e;rw [Rl h2 h4 fun z=>?_];constructor
   ·intro hz;rcases List.mem_cons.1 ((h z).1 (by simp [hz])) with e | hz'
    ·have:=h1 z hz;omega
    ·exact hz'
   ·intro hz;rcases List.mem_cons.1 ((h z).2 (by simp [hz])) with e | hz'
    ·have:=h3 z hz;omega
    ·exact hz'
theorem Np (l:List Int):Lib.compact (l.mergeSort fun x y=>decide (x≤y))=nrm l:=by
 have hs:(l.mergeSort fun x y=>decide (x≤y)).Pairwise (·≤·):=by
  have:=List.pairwise_mergeSort (le:=fun x y:Int=>decide (x≤y)) (fun a b c h1 h2=>by simp at *;omega) (fun a b=>by simp;omega) l;exact this.imp fun h=>by simpa using h
 have hm:∀ x,x∈(l.mergeSort fun x y=>decide (x≤y))↔x∈l:=fun x=>(List.mergeSort_perm l _).mem_iff
 generalize (l.mergeSort fun x y=>decide (x≤y))=m at hs hm;have hget:∀ i,i<m.length→m.toArray[i]! = m.getD i 0:=fun i hi=>by simp [hi]
 have hle:∀ i j,i≤j→j<m.length→m.getD i 0≤m.getD j 0:=fun i j hij hj=>by
  have hi:i<m.length:=by omega
  simp only [List.getD,List.getElem?_eq_getElem hi,List.getElem?_eq_getElem hj,Option.getD_some];rcases Nat.lt_or_eq_of_le hij with h | rfl
  ·exact List.pairwise_iff_getElem.1 hs i j hi hj h
  ·exact Int.le_refl _
 refine Rl ?_ (Jm l) fun x=>?_
 ·unfold Lib.compact Lib.compactUpTo;rw [List.pairwise_map];have hr:((List.range m.length).filter (Lib.keeps m.toArray)).Pairwise (·<·):=List.Pairwise.filter _ List.pairwise_lt_range;refine List.Pairwise.imp_of_mem (fun {i j} hi hj h=>?_) hr;obtain ⟨hi1,hi2⟩:=List.mem_filter.1 hi;obtain ⟨hj1,hj2⟩:=List.mem_filter.1 hj;have hi1:=List.mem_range.1 hi1;have hj1:=List.mem_range.1 hj1;have hk:m.toArray[j]!≠m.toArray[j-1]!:=by
   have:=of_decide_eq_true hj2;rcases this with h' | h'
   ·omega
   ·exact h'
  have h1:=hle i (j-1) (by omega) (by omega);have h2:=hle (j-1) j (by omega) hj1;rw [hget j hj1,hget (j-1) (by omega)] at hk;rw [hget i hi1,hget j hj1];omega
 ·rw [qx,← hm];unfold Lib.compact Lib.compactUpTo;rw [List.mem_map];constructor
  ·rintro ⟨i,hi,rfl⟩;have hi1:=List.mem_range.1 (List.mem_filter.1 hi).1;simp [hi1]
  ·intro hx;have:∀ n,∀ i,i≤n→(hi:i<m.length)→m[i]=x→∃ j,j∈(List.range m.length).filter (Lib.keeps m.toArray)∧m.toArray[j]! = x:=by
    intro n
    induction n with
    | zero=>
      intro i hin hi e;obtain rfl:i=0:=by omega
      exact ⟨0,List.mem_filter.2 ⟨List.mem_range.2 hi,by simp [Lib.keeps]⟩,by simp [hi,e]⟩
    | succ n ih=>
      intro i hin hi e;by_cases hk:Lib.keeps m.toArray i=true
      ·exact ⟨i,List.mem_filter.2 ⟨List.mem_range.2 hi,hk⟩,by simp [hi,e]⟩
      ·have hk':¬ (i=0∨m.toArray[i]!≠m.toArray[i-1]!):=fun h=>hk (decide_eq_true h)
       have h0:i≠0:=fun h=>hk' (.inl h)
       have h1:m.toArray[i]! = m.toArray[i-1]!:=Classical.byContradiction fun h=>hk' (.inr h)
       have hp:i-1<m.length:=(by omega);refine ih (i-1) (by omega) hp ?_;have:m[i]=m[i-1]:=(by simpa [hi,hp] using h1);rw [← this,e]
   obtain ⟨i,hi,e⟩:=List.getElem_of_mem hx;exact this i i (Nat.le_refl _) hi e
def gX (gs:List Gt) (kind:Int) (l:List Int):List Gt:=match nrm l with
 | []=>gs
 | [_]=>gs
 | u=>gs++[(kind,0,u)]
def nM (gs:List Gt) (kind:Int) (l:List Int):Int:=match nrm l with
 | []=>if kind=4 then 1 else 0
 | [x]=>x
 | _=>(gs.length:Nat)
end Go.Own
namespace Go.Proofs.YtdonenoiehdahaaGreat
open Go Go.Abs Go.Own
attribute [local irreducible] WP
theorem Tryz.join (gs:List Gt) (k:Int) (l:List Int) (hg:gs.length≤1000000000000) (hl:l.length≤1000000) :
  aH Tryz.prog 127 [0,1] [.ptr 0 0,.d (.int .i64 k),.d (.list (l.map enI))]
   [((0,3),.cell (.sl 1 3 0 gs.length)),((1,0),.arr 3 (gs.map dN))] [2] [.d (.int .i64 (nM gs k l))]
   [((0,3),.cell (.sl 2 3 0 (gX gs k l).length)),((2,0),.arr 3 ((gX gs k l).map dN))]:=by
 have hsl:(qZ l).length=l.length:=by simp [qZ]
 have hc:Lib.compact (qZ l)=nrm l:=Np l;have hcl:=Lib.compact_length_le (qZ l);rw [hc,hsl] at hcl;refine aH.of_wp hT (nt:=_) (c:=_) Tryz.func127 rfl rfl rfl rfl (by kernel_rfl) rfl rfl ?_;intro w0 ok0 wr β0;repeat (refine gw rfl ?_;conv=>whnf)
 refine .inr ⟨_,_,_,_,_,_,Tryz.VY l hl,[(1,30)],[30],rfl,rfl,?_⟩;conv=>whnf
 repeat (refine gw rfl ?_;conv=>whnf)
 refine .inr ⟨_,_,_,_,_,_,Tryz.ZM l hl,[(0,30)],[],rfl,rfl,?_⟩;conv=>whnf
 refine ⟨rfl,?_⟩;conv=>whnf
 repeat (refine gw rfl ?_;conv=>whnf)
 rw [← hsl];refine .inr ⟨_,_,_,_,_,_,Tryz.VR (qZ l) (by omega),[(0,30)],[],rfl,rfl,?_⟩;conv=>whnf
 refine ⟨rfl,?_⟩;conv=>whnf
 rw [hc];refine WP.weak (l':=⟨[(0,.ptr 0 0),(1,.d (.int .i64 k)),(2,.d (.list ((nrm l).map enI)))],[((0,3),some (.cell (.sl 1 3 0 gs.length))),((1,0),some (.arr 3 (gs.map dN)))],[0,1]⟩) [(0,some 0),(1,some 1)] [30] ?_ ?_
 ·((conv=>whnf);repeat (first | exact ⟨⟩ | (refine ⟨by first | rfl | (simp;done) | (simp;omega),?_⟩;conv=>whnf)));refine ⟨(nrm l).map enI,by rw [List.drop_zero,List.map_append];exact List.take_left' (by simp),(by first | (simp;done) | (simp;omega)),rfl,?_⟩;((conv=>whnf);repeat (first | exact ⟨⟩ | (refine ⟨by first | rfl | (simp;done) | (simp;omega),?_⟩;conv=>whnf)))
 have hj:∀ u,nrm l=u→gX gs k l=(match u with | []=>gs | [_]=>gs | u=>gs++[(k,0,u)])∧nM gs k l=(match u with | []=>if k=4 then 1 else 0 | [x]=>x | _=>(gs.length:Nat)):=fun u e=>by
  subst e;exact ⟨rfl,rfl⟩
 obtain ⟨hj1,hj2⟩:=hj _ rfl;rw [hj1,hj2];clear hj hj1 hj2 hc;generalize nrm l=u at hcl ⊢
 match u,hcl with
 | [],_=>
   (repeat (refine gw rfl ?_;conv=>whnf));have hk:(if k=4 then (1:Int) else 0)=match k==4 with | true=>1 | false=>0:=by
    by_cases h:k=4
    ·subst h;rfl
    ·rw [if_neg h,show (k==4)=false from by simpa using h]
   rw [hk];cases k==4 with
   | true=>
     (conv=>whnf);(repeat (refine gw rfl ?_;conv=>whnf));refine ⟨[(0,some 0),(1,some 1),(2,some 1)],[],?_,rfl⟩;((conv=>whnf);repeat (first | exact ⟨⟩ | (refine ⟨by first | rfl | (simp;done) | (simp;omega),?_⟩;conv=>whnf)))
   | false=>
     (conv=>whnf);(repeat (refine gw rfl ?_;conv=>whnf));refine ⟨[(0,some 0),(1,some 1),(2,some 1)],[],?_,rfl⟩;((conv=>whnf);repeat (first | exact ⟨⟩ | (refine ⟨by first | rfl | (simp;done) | (simp;omega),?_⟩;conv=>whnf)))
 | [x],_=>
   (repeat (refine gw rfl ?_;conv=>whnf));refine ⟨by omega,_,rfl,rfl,?_⟩;(conv=>whnf);(repeat (refine gw rfl ?_;conv=>whnf));refine ⟨[(0,some 0),(1,some 1),(2,some 1)],[],?_,rfl⟩;((conv=>whnf);repeat (first | exact ⟨⟩ | (refine ⟨by first | rfl | (simp;done) | (simp;omega),?_⟩;conv=>whnf)))
 | x::y::u,hcl=>
   (repeat (refine gw rfl ?_;conv=>whnf));refine .inr ⟨_,_,_,_,_,_,Tryz.add gs k 0 (x::y::u) hg,[(0,0),(1,1),(2,40)],[40],rfl,rfl,?_⟩;(conv=>whnf);refine ⟨rfl,rfl,?_⟩;(conv=>whnf);(repeat (refine gw rfl ?_;conv=>whnf));rw [List.length_append,List.length_singleton];refine ⟨[(0,some 0),(1,some 1),(2,some 40)],[],?_,rfl⟩;((conv=>whnf);repeat (first | exact ⟨⟩ | (refine ⟨by first | rfl | (simp;done) | (simp;omega),?_⟩;conv=>whnf)))
end Go.Proofs.YtdonenoiehdahaaGreat
namespace Go.Own
open Go.Abs
def bI (m:Mi) (a:Int):Int:=(jv m a).getD 0
theorem sU (m:Mi) (a:Int):(Abs.look (mpI m) (.int .i64 a)).getD (.int .i64 0) = .int .i64 (bI m a):=by
 rw [yg];unfold bI;cases jv m a<;>rfl
abbrev Gn:=List Gt×Mi
def oD (val:Mi) (s:Gn) (a:Int):Gn:=match jv s.2 a with
 | some _=>s
 | none=>(s.1++[(6,0,[bI val a])],gU s.2 a (s.1.length:Nat))
def Bq (s:Gn) (a:Int):Int:=match jv s.2 a with
 | some k=>k
 | none=>(s.1.length:Nat)
end Go.Own
namespace Go.Proofs.YtdonenoiehdahaaGreat
open Go Go.Abs Go.Own
attribute [local irreducible] WP
theorem Tryz.aan (gs:List Gt) (val neg:Mi) (a:Int) (hg:gs.length≤1000000000000) :
  aH Tryz.prog 126 [0,1,2,3] [.ptr 0 0,.d (.int .i64 a)]
   [((0,3),.cell (.sl 1 3 0 gs.length)),((1,0),.arr 3 (gs.map dN)),((0,4),.cell (.map 2)),((2,0),.map (mpI val)),((0,5),.cell (.map 3)),((3,0),.map (mpI neg))] [4] [.d (.int .i64 (Bq (gs,neg) a))]
   [((0,3),.cell (.sl 4 3 0 (oD val (gs,neg) a).1.length)),((4,0),.arr 3 ((oD val (gs,neg) a).1.map dN)),((0,4),.cell (.map 2)),((2,0),.map (mpI val)),((0,5),.cell (.map 3)),((3,0),.map (mpI (oD val (gs,neg) a).2))]:=by
 refine aH.of_wp hT (nt:=_) (c:=_) Tryz.func126 rfl rfl rfl rfl (by kernel_rfl) rfl rfl ?_;intro w0 ok0 wr β0;repeat (refine gw rfl ?_;conv=>whnf)
 refine ⟨gY rfl rfl _,?_⟩;conv=>whnf
 rw [yg];have hn:oD val (gs,neg) a=(match jv neg a with | some _=>(gs,neg) | none=>(gs++[(6,0,[bI val a])],gU neg a (gs.length:Nat)))∧Bq (gs,neg) a=(match jv neg a with | some k=>k | none=>(gs.length:Nat)):=⟨rfl,rfl⟩;rw [hn.1,hn.2];cases hk:jv neg a with
 | some k=>
   (repeat (refine gw rfl ?_;conv=>whnf));refine ⟨[(0,some 0),(1,some 1),(2,some 2),(3,some 3),(4,some 1)],[],?_,rfl⟩;((conv=>whnf);repeat (first | exact ⟨⟩ | (refine ⟨by first | rfl | (simp;done) | (simp;omega),?_⟩;conv=>whnf)))
 | none=>
   conv=>whnf
   iterate 5 (refine gw rfl ?_;conv=>whnf)
   refine W2 hT hM [25] ?_;(conv=>whnf);refine ⟨gY rfl rfl _,?_⟩;(conv=>whnf);rw [sU];refine ⟨rfl,?_⟩;(conv=>whnf);refine .inr ⟨_,_,_,_,_,_,Tryz.add gs 6 0 [bI val a] hg,[(0,0),(1,1),(2,40)],[40],rfl,rfl,?_⟩;(conv=>whnf);refine ⟨rfl,rfl,?_⟩;(conv=>whnf);(repeat (refine gw rfl ?_;conv=>whnf));refine ⟨gY rfl rfl _,?_⟩;rw [nH];(conv=>whnf);repeat (refine gw rfl ?_;conv=>whnf)
   trace_state
   rw [List.length_append,List.length_singleton];refine ⟨[(0,some 0),(1,some 1),(2,some 2),(3,some 3),(4,some 40)],[],?_,rfl⟩;((conv=>whnf);repeat (first | exact ⟨⟩ | (refine ⟨by first | rfl | (simp;done) | (simp;omega),?_⟩;conv=>whnf)))
end Go.Proofs.YtdonenoiehdahaaGreat
namespace Go.Own
def rkI (l:List Int) (n:Int):Int:=l.getD n.toNat 0
theorem uy {l:List Int} {n:Int} (h:n.toNat<l.length):rkI l n=l[n.toNat]:=by
 unfold rkI;simp [h]
def posQ (str rk:List Int) (round h n:Int):Bool:=!(decide (rkI rk n<0)||(rkI str n==rkI str h&&decide (rkI rk n≥round)))
def negQ (rk:List Int) (n:Int):Bool:=!decide (rkI rk n≥0)
def tC (str rk:List Int) (round:Int) (r:Gr):Bool:=r.2.1.all (posQ str rk round r.1)&&r.2.2.all (negQ rk)
theorem YF {α:Type} {l:List α} {p:α→Bool} {i:Nat} (h:i<l.length) (hp:p l[i]=false):l.all p=false:=by
 rw [List.all_eq_false];exact ⟨l[i],List.getElem_mem h,by rw [hp];simp⟩
theorem YE {α:Type} {l:List α} {p:α→Bool} (h:∀ i (hi:i<l.length),p l[i]=true):l.all p=true:=by
 rw [List.all_eq_true];intro x hx;obtain ⟨i,hi,rfl⟩:=List.mem_iff_getElem.1 hx;exact h i hi
end Go.Own
namespace Go.Proofs.YtdonenoiehdahaaGreat
open Go Go.Abs Go.Own
attribute [local irreducible] WP
theorem OW {l:List Int} {n:Int} (h:n.toNat<l.length):(l.map enI)[n.toNat]?=some (.int .i64 (rkI l n)):=by
 rw [uy h,List.getElem?_map,List.getElem?_eq_getElem h];rfl
theorem sN {l:List Int} {n:Int} (h:n.toNat<l.length):(l.map enI)[0+n.toNat]?=some (.int .i64 (rkI l n)):=by
 rw [Nat.zero_add];exact OW h
theorem XF {l:List Int} {i:Nat} (h:i<l.length):(l.map enI)[((i:Int)).toNat]?=some (.int .i64 l[i]):=ay h
theorem Tryz.Zp (str rk:List Int) (round:Int) (r:Gr) (hrl:rk.length≤1000) (hh:0≤r.1∧r.1.toNat<str.length) (h1:∀ n∈r.2.1,0≤n∧n.toNat<rk.length∧n.toNat<str.length) (h2:∀ n∈r.2.2,0≤n∧n.toNat<rk.length) (hll:r.2.1.length+r.2.2.length≤1000) :
  aH Tryz.prog 101 [200] [.d (enG r),.sl 200 1 0 rk.length,.d (.list (str.map enI)),.d (.int .i64 round)] [((200,0),.arr 1 (rk.map enI))] [] [.d (.bool (tC str rk round r))] [((200,0),.arr 1 (rk.map enI))]:=by
 refine aH.of_wp hT (nt:=_) (c:=_) Tryz.func101 rfl rfl rfl rfl (by kernel_rfl) rfl rfl ?_;intro w0 ok0 wr β0;repeat (refine gw rfl ?_;conv=>whnf)
 refine WP.loop (α:=Nat) (fun i=>⟨[(1,.sl 200 1 0 rk.length),(2,.d (.list (str.map enI))),(3,.d (.int .i64 round)),(4,.d (.ref (enG r).cells 0)),(9,.d (.int .i64 i))],[((200,0),some (.arr 1 (rk.map enI)))],[200]⟩) (fun i=>i≤r.2.1.length∧∀ j (hj:j<r.2.1.length),j<i→posQ str rk round r.1 r.2.1[j]=true) (fun i=>r.2.1.length-i) 0 [(200,some 200)] [] ?_ ?_ ?_
 ·((conv=>whnf);repeat (first | exact ⟨⟩ | (refine ⟨by first | rfl | (simp;done) | (simp;omega),?_⟩;conv=>whnf)))
 ·exact ⟨Nat.zero_le _,fun j _ hj=>by omega⟩
 ·rintro i ⟨hi,ht⟩;repeat (refine gw rfl ?_;conv=>whnf)
  rw [List.length_map];(split<;>rename_i hb<;>(try rw [hb])<;>(conv=>whnf))
  ·have hlt:i<r.2.1.length:=(by simpa using hb);clear hb;obtain ⟨n0,n1,n2⟩:=h1 _ (List.getElem_mem hlt);have hgt:=XF hlt;have hfal:posQ str rk round r.1 r.2.1[i]=false→tC str rk round r=false:=fun h=>by unfold tC;rw [YF hlt h];rfl
   have htr:posQ str rk round r.1 r.2.1[i]=true→∀ j (hj:j<r.2.1.length),j<i+1→posQ str rk round r.1 r.2.1[j]=true:=fun h j hj hji=>by
    rcases Nat.lt_or_ge j i with h' | h'
    ·exact ht j hj h'
    ·obtain rfl:j=i:=by omega
     exact h
   have hp0:posQ str rk round r.1 r.2.1[i]=!(decide (rkI rk r.2.1[i]<0)||(rkI str r.2.1[i]==rkI str r.1&&decide (rkI rk r.2.1[i]≥round))):=rfl;generalize r.2.1[i]=n at n0 n1 n2 hgt hfal htr hp0;(repeat (refine gw rfl ?_;conv=>whnf));refine ⟨by omega,_,hgt,rfl,?_⟩;(conv=>whnf);(repeat (refine gw rfl ?_;conv=>whnf));refine ⟨⟨n0,by omega⟩,?_⟩;(conv=>whnf);refine ⟨_,sN n1,?_⟩;(conv=>whnf);cases ha:decide (rkI rk n<0) with
   | true=>
     rw [hfal (by rw [hp0,ha];rfl)];(conv=>whnf);(repeat (refine gw rfl ?_;conv=>whnf));refine ⟨[(200,some 200)],[],?_,rfl⟩;((conv=>whnf);repeat (first | exact ⟨⟩ | (refine ⟨by first | rfl | (simp;done) | (simp;omega),?_⟩;conv=>whnf)))
   | false=>
     (conv=>whnf);refine ⟨n0,_,OW n2,rfl,?_⟩;(conv=>whnf);refine ⟨hh.1,_,OW hh.2,rfl,?_⟩;(conv=>whnf);cases hb:rkI str n==rkI str r.1 with
     | false=>
       have:=htr (by rw [hp0,ha,hb];rfl);(conv=>whnf);(repeat (refine gw rfl ?_;conv=>whnf));refine ⟨by omega,?_⟩;(conv=>whnf);refine ⟨i+1,[(200,some 200)],[],?_,⟨by omega,this⟩,by omega⟩;((conv=>whnf);repeat (first | exact ⟨⟩ | (refine ⟨by first | rfl | (simp;done) | (simp;omega),?_⟩;conv=>whnf)))
     | true=>
       (conv=>whnf);refine ⟨⟨n0,by omega⟩,?_⟩;(conv=>whnf);refine ⟨_,sN n1,?_⟩;(conv=>whnf);cases hc:decide (rkI rk n≥round) with
       | true=>
         rw [hfal (by rw [hp0,ha,hb,hc];rfl)];(conv=>whnf);(repeat (refine gw rfl ?_;conv=>whnf));refine ⟨[(200,some 200)],[],?_,rfl⟩;((conv=>whnf);repeat (first | exact ⟨⟩ | (refine ⟨by first | rfl | (simp;done) | (simp;omega),?_⟩;conv=>whnf)))
       | false=>
         have:=htr (by rw [hp0,ha,hb,hc];rfl);(conv=>whnf);(repeat (refine gw rfl ?_;conv=>whnf));refine ⟨by omega,?_⟩;(conv=>whnf);refine ⟨i+1,[(200,some 200)],[],?_,⟨by omega,this⟩,by omega⟩;((conv=>whnf);repeat (first | exact ⟨⟩ | (refine ⟨by first | rfl | (simp;done) | (simp;omega),?_⟩;conv=>whnf)))
  ·have hie:i=r.2.1.length:=(by simp at hb;omega);subst hie;clear hb;have hpos:r.2.1.all (posQ str rk round r.1)=true:=YE fun j hj=>ht j hj hj
   have hfq:tC str rk round r=r.2.2.all (negQ rk):=(by unfold tC;rw [hpos];rfl);rw [hfq];(repeat (refine gw rfl ?_;conv=>whnf));refine WP.loop (α:=Nat) (fun i=>⟨[(1,.sl 200 1 0 rk.length),(4,.d (.ref (enG r).cells 0)),(11,.d (.int .i64 i))],[((200,0),some (.arr 1 (rk.map enI)))],[200]⟩) (fun i=>i≤r.2.2.length∧∀ j (hj:j<r.2.2.length),j<i→negQ rk r.2.2[j]=true) (fun i=>r.2.2.length-i) 0 [(200,some 200)] [] ?_ ?_ ?_
   ·((conv=>whnf);repeat (first | exact ⟨⟩ | (refine ⟨by first | rfl | (simp;done) | (simp;omega),?_⟩;conv=>whnf)))
   ·exact ⟨Nat.zero_le _,fun j _ hj=>by omega⟩
   ·rintro i ⟨hi,ht⟩;(repeat (refine gw rfl ?_;conv=>whnf));rw [List.length_map];(split<;>rename_i hb<;>(try rw [hb])<;>(conv=>whnf))
    ·have hlt:i<r.2.2.length:=(by simpa using hb);clear hb;obtain ⟨n0,n1⟩:=h2 _ (List.getElem_mem hlt);have hgt:=XF hlt;have hfal:negQ rk r.2.2[i]=false→r.2.2.all (negQ rk)=false:=fun h=>YF hlt h
     have htr:negQ rk r.2.2[i]=true→∀ j (hj:j<r.2.2.length),j<i+1→negQ rk r.2.2[j]=true:=fun h j hj hji=>by
      rcases Nat.lt_or_ge j i with h' | h'
      ·exact ht j hj h'
      ·obtain rfl:j=i:=by omega
       exact h
     have hp0:negQ rk r.2.2[i]=!decide (rkI rk r.2.2[i]≥0):=rfl;generalize r.2.2[i]=n at n0 n1 hgt hfal htr hp0;(repeat (refine gw rfl ?_;conv=>whnf));refine ⟨by omega,_,hgt,rfl,?_⟩;(conv=>whnf);refine ⟨⟨n0,by omega⟩,?_⟩;(conv=>whnf);refine ⟨_,sN n1,?_⟩;(conv=>whnf);(repeat (refine gw rfl ?_;conv=>whnf));cases ha:decide (rkI rk n≥0) with
     | true=>
       rw [hfal (by rw [hp0,ha];rfl)];(conv=>whnf);(repeat (refine gw rfl ?_;conv=>whnf));refine ⟨[(200,some 200)],[],?_,rfl⟩;((conv=>whnf);repeat (first | exact ⟨⟩ | (refine ⟨by first | rfl | (simp;done) | (simp;omega),?_⟩;conv=>whnf)))
     | false=>
       have:=htr (by rw [hp0,ha];rfl);(conv=>whnf);(repeat (refine gw rfl ?_;conv=>whnf));refine ⟨by omega,?_⟩;(conv=>whnf);refine ⟨i+1,[(200,some 200)],[],?_,⟨by omega,this⟩,by omega⟩;((conv=>whnf);repeat (first | exact ⟨⟩ | (refine ⟨by first | rfl | (simp;done) | (simp;omega),?_⟩;conv=>whnf)))
    ·have hie:i=r.2.2.length:=(by simp at hb;omega);subst hie;clear hb;rw [YE fun j hj=>ht j hj hj];(repeat (refine gw rfl ?_;conv=>whnf));refine ⟨[(200,some 200)],[],?_,rfl⟩;((conv=>whnf);repeat (first | exact ⟨⟩ | (refine ⟨by first | rfl | (simp;done) | (simp;omega),?_⟩;conv=>whnf)))
end Go.Proofs.YtdonenoiehdahaaGreat
namespace Go.Own
def gW (str:List Int) (lev round:Int) (q:List Int×Bool) (r:Gr):List Int×Bool:=match (rkI str r.1==lev)&&(decide (rkI q.1 r.1<0)&&tC str q.1 round r) with
 | true=>(q.1.set r.1.toNat round,true)
 | false=>q
def Ar (str:List Int) (lev:Int) (rules:List Gr) (round:Int) (rk:List Int):List Int×Bool:=rules.foldl (gW str lev round) (rk,false)
def ng (str:List Int) (lev:Int) (rules:List Gr):Nat→Int→List Int→List Int
 | 0,_,rk=>rk
 | f+1,round,rk=>match (Ar str lev rules round rk).2 with
   | true=>ng str lev rules f (round+1) (Ar str lev rules round rk).1
   | false=>(Ar str lev rules round rk).1
def Bd (str:List Int):Int:=str.foldl (fun m s=>max m s) (-1)
def yX (rk:List Int) (f:Int):List Int:=rk.set f.toNat 0
def Oo (n:Nat) (facts:List Int):List Int:=facts.foldl yX (List.replicate n (-1))
def jl (n:Nat) (str:List Int) (rules:List Gr) (facts:List Int) (k:Nat):List Int:=(List.range k).foldl (fun rk s=>ng str (s:Nat) rules (n+1) 1 rk) (Oo n facts)
def jC (rk:List Int):Nat:=(rk.filter fun x=>decide (x<0)).length
theorem LM {rk:List Int} {i:Nat} {v:Int} (h:i<rk.length) (hn:rk[i]<0) (hv:0≤v):jC (rk.set i v)+1=jC rk:=by
 induction rk generalizing i with
 | nil=>simp at h
 | cons x l ih=>
   cases i with
   | zero=>
     have hx:x<0:=hn;unfold jC;rw [List.set_cons_zero,List.filter_cons_of_neg (by simp;omega),List.filter_cons_of_pos (by simpa using hx),List.length_cons]
   | succ i=>
     have:=ih (i:=i) (by simpa using h) (by simpa using hn);unfold jC at *;rw [List.set_cons_succ];by_cases hx:x<0
     ·rw [List.filter_cons_of_pos (by simpa using hx),List.filter_cons_of_pos (by simpa using hx),List.length_cons,List.length_cons,this]
     ·rw [List.filter_cons_of_neg (by simpa using hx),List.filter_cons_of_neg (by simpa using hx),this]
theorem Gu (str:List Int) (s round:Int) (q:List Int×Bool) (r:Gr):(gW str s round q r).1.length=q.1.length:=by
 unfold gW;split<;>simp
theorem Hy (str:List Int) (s round:Int):∀ (l:List Gr) (q:List Int×Bool),(l.foldl (gW str s round) q).1.length=q.1.length
 | [],q=>rfl
 | r::l,q=>by rw [List.foldl_cons,Hy str s round l,Gu]
theorem NY {str:List Int} {s round:Int} (hr:0≤round) {q:List Int×Bool} {r:Gr} (hi:r.1.toNat<q.1.length):jC (gW str s round q r).1≤jC q.1∧((gW str s round q r).2=true→q.2=true∨jC (gW str s round q r).1<jC q.1):=by
 unfold gW;cases hb:(rkI str r.1==s)&&(decide (rkI q.1 r.1<0)&&tC str q.1 round r) with
 | false=>exact ⟨Nat.le_refl _,fun h => .inl h⟩
 | true=>
   simp only [Bool.and_eq_true,decide_eq_true_eq] at hb;have h1:=hb.2.1;rw [uy hi] at h1;have:=LM (v:=round) hi h1 hr;exact ⟨by dsimp only;omega,fun _ => .inr (by dsimp only;omega)⟩
theorem Es {str:List Int} {s round:Int} (hr:0≤round):∀ {l:List Gr} {q:List Int×Bool},(∀ r∈l,r.1.toNat<q.1.length)→jC (l.foldl (gW str s round) q).1≤jC q.1∧((l.foldl (gW str s round) q).2=true→q.2=true∨jC (l.foldl (gW str s round) q).1<jC q.1)
 | [],q,_=>⟨Nat.le_refl _,fun h => .inl h⟩
 | r::l,q,h=>by
   rw [List.foldl_cons];obtain ⟨h1,h2⟩:=NY (str:=str) (s:=s) hr (q:=q) (h r (by simp));obtain ⟨h3,h4⟩:=Es (str:=str) (s:=s) hr (l:=l) (q:=gW str s round q r) fun r' hr'=>by rw [Gu];exact h r' (by simp [hr'])
   refine ⟨by omega,fun h5=>?_⟩;rcases h4 h5 with h6 | h6
   ·rcases h2 h6 with h7 | h7
    ·exact .inl h7
    ·exact .inr (by omega)
   ·exact .inr (by omega)
theorem qg:∀ (l:List Int) (m:Int),(∀ s∈l,s≤l.foldl (fun m s=>max m s) m)∧m≤l.foldl (fun m s=>max m s) m∧(∀ b,m≤b→(∀ s∈l,s≤b)→l.foldl (fun m s=>max m s) m≤b)
 | [],m=>⟨(fun s h=>by cases h),Int.le_refl _,fun b h _=>h⟩
 | x::l,m=>by
   rw [List.foldl_cons];obtain ⟨h1,h2,h3⟩:=qg l (max m x);refine ⟨fun s hs=>?_,by omega,fun b hb h=>h3 b (by have:=h x (by simp);omega) fun s hs=>h s (by simp [hs])⟩;rcases List.mem_cons.1 hs with rfl | hs
   ·omega
   ·exact h1 s hs
theorem bn {α β:Type} (f:β→α→β) (s:β) (l:List α) {i:Nat} (h:i<l.length):(l.take (i+1)).foldl f s=f ((l.take i).foldl f s) l[i]:=by
 rw [List.take_succ_eq_append_getElem h,List.foldl_append];rfl
theorem KZ (n:Nat) (facts:List Int):(Oo n facts).length=n:=by
 have:∀ (l:List Int) (rk:List Int),(l.foldl yX rk).length=rk.length:=fun l=>by
  induction l with
  | nil=>intro rk;rfl
  | cons x l ih=>intro rk;rw [List.foldl_cons,ih];simp [yX]
 unfold Oo;rw [this];simp
def JF (rk:List Int) (i:Nat):Bool:=decide (0≤rk.getD i 0)
def holdL (rk:List Int) (k:Nat):List Int:=((List.range k).filter (JF rk)).map fun i=>((i:Nat):Int)
theorem D8 (rk:List Int) (k:Nat):holdL rk (k+1)=holdL rk k++(match JF rk k with | true=>[((k:Nat):Int)] | false=>[]):=by
 unfold holdL;rw [List.range_succ,List.filter_append,List.map_append];cases hb:JF rk k with
 | true=>rw [List.filter_cons_of_pos hb];rfl
 | false=>rw [List.filter_cons_of_neg (by rw [hb];simp)];rfl
theorem uM (rk:List Int) (k:Nat):(holdL rk k).length≤k:=by
 unfold holdL;rw [List.length_map];exact Nat.le_trans (List.length_filter_le _ _) (by simp)
end Go.Own
namespace Go.Proofs.YtdonenoiehdahaaGreat
open Go Go.Abs Go.Own
attribute [local irreducible] WP
set_option maxRecDepth 10000 in
theorem Tryz.WY (atoms:List Tm) (rules:List Gr) (str facts:List Int) (hv:aK atoms rules=true) (hok:∀ x∈atoms,okT x) (hfit:zJ rules) (hfa:qM atoms.length facts=true) (hfl:facts.length≤1000)
  (hin:dZ atoms.length rules) (hn:atoms.length≤64) (hr:rules.length≤128) (hf:∀ r∈rules,r.2.1.length+r.2.2.length≤16) (hsl:str.length=atoms.length) (hs:∀ s∈str,0≤s∧s≤1000)
  (hS:Pure Tryz.prog 37 [gD atoms rules] [.list (str.map enI),.int .i64 0]) :
  Pure Tryz.prog 60 [gD atoms rules,.list (facts.map enI)] [.list ((jl atoms.length str rules facts (Bd str+1).toNat).map enI),.int .i64 0]:=by
 obtain ⟨ht1,ht2,ht3⟩:=qg str (-1);have hnum:Pure Tryz.prog 79 [.list (facts.map enI),.int .i64 ((atoms.map enT).length:Nat)] [.bool true]:=by
  rw [List.length_map];have:=Tryz.zo atoms.length facts (by omega)
  rwa [hfa] at this
 refine Pure.of_wp hT (nt:=_) (c:=_) Tryz.func60 rfl rfl rfl rfl (by kernel_rfl) ?_;intro w0 ok0 β0;repeat (refine gw rfl ?_;conv=>whnf)
 refine .inl ⟨_,Tryz.BD atoms rules hok hfit,.inl rfl,?_⟩;rw [hv];conv=>whnf
 refine .inl ⟨_,hnum,.inl rfl,?_⟩;conv=>whnf
 repeat (refine gw rfl ?_;conv=>whnf)
 refine .inl ⟨_,hS,.inl rfl,?_⟩;conv=>whnf
 repeat (refine gw rfl ?_;conv=>whnf)
 refine WP.loop (α:=Nat) (fun i=>⟨[(1,.d (.list (facts.map enI))),(2,.d (.ref (gD atoms rules).cells 0)),(6,.d (.list (str.map enI))),(8,.sl 60 1 0 i),(9,.d (.int .i64 (Bd (str.take i)))),(10,.d (.int .i64 i))],[((60,0),some (.arr 1 ((List.replicate i (-1)).map enI)))],[60]⟩)
  (fun i=>i≤str.length) (fun i=>str.length-i) 0 [(60,none)] [] ?_ ?_ ?_
 ·((conv=>whnf);repeat (first | exact ⟨⟩ | (refine ⟨by first | rfl | (simp;done) | (simp;omega),?_⟩;conv=>whnf)))
 ·exact Nat.zero_le _
 ·intro i hi;have htb:=(qg (str.take i) (-1));have htk:=fun (h:i<str.length)=>show Bd (str.take (i+1))=max (Bd (str.take i)) str[i] from bn _ _ _ h
  have htr:-1≤Bd (str.take i)∧Bd (str.take i)≤1000:=⟨htb.2.1,htb.2.2 1000 (by omega) fun s h=>(hs s (List.mem_of_mem_take h)).2⟩;clear htb;repeat (refine gw rfl ?_;conv=>whnf)
  rw [List.length_map];(split<;>rename_i hb<;>(try rw [hb])<;>(conv=>whnf))
  ·have hlt:i<str.length:=(by rw [hsl];simpa using hb);clear hb;repeat (refine gw rfl ?_;conv=>whnf)
   (refine ⟨rfl,?_⟩;(conv=>whnf);refine ⟨_,(congrArg (List.take _) List.drop_zero).trans (List.take_of_length_le (by first | (simp;done) | (simp;omega))),by first | (simp;done) | (simp;omega),?_⟩;(conv=>whnf);refine ⟨_,rfl,Nat.le_refl _,?_⟩;(conv=>whnf);refine ⟨by show (_+1)*8≤_;first | (simp;done) | (simp;omega),?_⟩;(conv=>whnf))
   (repeat (refine gw rfl ?_;conv=>whnf));refine ⟨by omega,_,XF hlt,rfl,?_⟩;(conv=>whnf);(repeat (refine gw rfl ?_;conv=>whnf));refine ⟨by omega,?_⟩;(conv=>whnf);refine ⟨i+1,[(60,some 45)],[],?_,by omega,by omega⟩;rw [htk hlt,show (List.replicate (i+1) (-1):List Int)=List.replicate i (-1)++[-1] from List.replicate_succ',List.map_append];((conv=>whnf);repeat (first | exact ⟨⟩ | (refine ⟨by first | rfl | (simp;done) | (simp;omega),?_⟩;conv=>whnf)))
  ·have hie:i=str.length:=(by rw [hsl];simp at hb;omega);subst hie;clear hb htk;rw [List.take_length] at htr ⊢;have hK:∃ K:Nat,Bd str+1=K:=⟨(Bd str+1).toNat,by omega⟩;obtain ⟨K,hK⟩:=hK;rw [hK,Int.toNat_natCast,show Bd str=(K:Int)-1 by omega];rw [← hsl];have hfin:=rZ hfa;rw [show (List.replicate str.length (-1):List Int)=(facts.take 0).foldl yX (List.replicate str.length (-1)) from rfl];(repeat (refine gw rfl ?_;conv=>whnf));refine WP.loop (α:=Nat) (fun i=>⟨[(1,.d (.list (facts.map enI))),(2,.d (.ref (gD atoms rules).cells 0)),(6,.d (.list (str.map enI))),(8,.sl 60 1 0 str.length),(9,.d (.int .i64 ((K:Int)-1))),(11,.d (.int .i64 i))],[((60,0),some (.arr 1 (((facts.take i).foldl yX (List.replicate str.length (-1))).map enI)))],[60]⟩)
    (fun i=>i≤facts.length) (fun i=>facts.length-i) 0 [(60,some 60)] [] ?_ ?_ ?_
   ·((conv=>whnf);repeat (first | exact ⟨⟩ | (refine ⟨by first | rfl | (simp;done) | (simp;omega),?_⟩;conv=>whnf)))
   ·exact Nat.zero_le _
   ·intro i hi;have hsu:=fun (h:i<facts.length)=>bn yX (List.replicate str.length (-1)) facts h
    have hRl:((facts.take i).foldl yX (List.replicate str.length (-1))).length=str.length:=KZ str.length (facts.take i);generalize hRe:(facts.take i).foldl yX (List.replicate str.length (-1))=R at hsu hRl ⊢;(repeat (refine gw rfl ?_;conv=>whnf));rw [List.length_map];(split<;>rename_i hb<;>(try rw [hb])<;>(conv=>whnf))
    ·have hlt:i<facts.length:=(by simpa using hb);clear hb;have hfb:=hfin _ (List.getElem_mem hlt);specialize hsu hlt;have hgt:=XF hlt;generalize facts[i]=x at hsu hfb hgt;(repeat (refine gw rfl ?_;conv=>whnf));refine ⟨by omega,_,hgt,rfl,?_⟩;(conv=>whnf);refine ⟨⟨by omega,by omega⟩,?_⟩;(conv=>whnf);refine ⟨rfl,_,sN (by omega),?_⟩;(conv=>whnf);refine .inl ⟨rfl,rfl,?_⟩;rw [Nat.zero_add,show (R.map enI).set x.toNat (.int .i64 0)=(yX R x).map enI from List.map_set.symm];(conv=>whnf);(repeat (refine gw rfl ?_;conv=>whnf));refine ⟨by omega,?_⟩;(conv=>whnf);refine ⟨i+1,[(60,some 60)],[],?_,by omega,by omega⟩;rw [hsu];((conv=>whnf);repeat (first | exact ⟨⟩ | (refine ⟨by first | rfl | (simp;done) | (simp;omega),?_⟩;conv=>whnf)))
    ·have hie:i=facts.length:=(by simp at hb;omega);subst hie;clear hb hsu;rw [List.take_length] at hRe;have hzero:jl str.length str rules facts 0=R:=hRe;rw [← hzero];(repeat (refine gw rfl ?_;conv=>whnf));refine WP.loop (α:=Nat) (fun k=>⟨[(2,.d (.ref (gD atoms rules).cells 0)),(6,.d (.list (str.map enI))),(8,.sl 60 1 0 str.length),(9,.d (.int .i64 ((K:Int)-1))),(12,.d (.int .i64 k))],[((60,0),some (.arr 1 ((jl str.length str rules facts k).map enI)))],[60]⟩)
      (fun k=>k≤K∧(jl str.length str rules facts k).length=str.length) (fun k=>K-k) 0 [(60,some 60)] [] ?_ ?_ ?_
     ·((conv=>whnf);repeat (first | exact ⟨⟩ | (refine ⟨by first | rfl | (simp;done) | (simp;omega),?_⟩;conv=>whnf)))
     ·exact ⟨Nat.zero_le _,by rw [hzero];exact hRl⟩
     ·rintro k ⟨hk,hkl⟩;have hks:jl str.length str rules facts (k+1)=ng str (k:Nat) rules (str.length+1) 1 (jl str.length str rules facts k):=by
       unfold jl;rw [List.range_succ,List.foldl_append];rfl
      generalize hfe:jl str.length str rules facts (k+1)=fin at hks;(repeat (refine gw rfl ?_;conv=>whnf));(split<;>rename_i hb<;>(try rw [hb])<;>(conv=>whnf))
      ·have hlk:k<K:=(by simp at hb;omega);clear hb;(repeat (refine gw rfl ?_;conv=>whnf));refine WP.loop (α:=Int×List Int×Bool×Nat) (fun y=>⟨[(2,.d (.ref (gD atoms rules).cells 0)),(6,.d (.list (str.map enI))),(8,.sl 60 1 0 str.length),(9,.d (.int .i64 ((K:Int)-1))),(12,.d (.int .i64 k)),(13,.d (.bool y.2.2.1)),(14,.d (.int .i64 y.1))],[((60,0),some (.arr 1 (y.2.1.map enI)))],[60]⟩)
        (fun y=>y.2.1.length=str.length∧1≤y.1∧y.1+y.2.2.2≤100∧(y.2.2.1=true→jC y.2.1<y.2.2.2∧ng str (k:Nat) rules y.2.2.2 y.1 y.2.1=fin)∧(y.2.2.1=false→y.2.1=fin)) (fun y=>y.2.2.2)
        (1,jl str.length str rules facts k,true,str.length+1) [(60,some 60)] [] ?_ ?_ ?_
       ·((conv=>whnf);repeat (first | exact ⟨⟩ | (refine ⟨by first | rfl | (simp;done) | (simp;omega),?_⟩;conv=>whnf)))
       ·exact ⟨hkl,Int.le_refl _,by dsimp only;omega,fun _=>⟨by have:=List.length_filter_le (fun x:Int=>decide (x<0)) (jl str.length str rules facts k);unfold jC;dsimp only;omega,hks.symm⟩,fun h=>by cases h⟩
       ·rintro ⟨round,rk,ch,fuel⟩ ⟨hrk,hro1,hro2,hch,hcf⟩;dsimp only at hrk hro1 hro2 hch hcf ⊢;(repeat (refine gw rfl ?_;conv=>whnf));cases ch with
        | false=>
          have hfin:=hcf rfl;subst hfin;(conv=>whnf);(repeat (refine gw rfl ?_;conv=>whnf));refine ⟨by omega,?_⟩;(conv=>whnf);refine ⟨k+1,[(60,some 60)],[],?_,⟨by omega,by rw [hfe];exact hrk⟩,by omega⟩;rw [hfe];((conv=>whnf);repeat (first | exact ⟨⟩ | (refine ⟨by first | rfl | (simp;done) | (simp;omega),?_⟩;conv=>whnf)))
        | true=>
          obtain ⟨hng,hrr⟩:=hch rfl;clear hch hcf;(conv=>whnf);(repeat (refine gw rfl ?_;conv=>whnf));refine WP.loop (α:=Nat) (fun j=>⟨[(2,.d (.ref (gD atoms rules).cells 0)),(6,.d (.list (str.map enI))),(8,.sl 60 1 0 str.length),(9,.d (.int .i64 ((K:Int)-1))),(12,.d (.int .i64 k)),(13,.d (.bool ((rules.take j).foldl (gW str (k:Nat) round) (rk,false)).2)),(14,.d (.int .i64 round)),(15,.d (.int .i64 j))],[((60,0),some (.arr 1 (((rules.take j).foldl (gW str (k:Nat) round) (rk,false)).1.map enI)))],[60]⟩)
           (fun j=>j≤rules.length) (fun j=>rules.length-j) 0 [(60,some 60)] [] ?_ ?_ ?_
          ·((conv=>whnf);repeat (first | exact ⟨⟩ | (refine ⟨by first | rfl | (simp;done) | (simp;omega),?_⟩;conv=>whnf)))
          ·exact Nat.zero_le _
          ·intro j hj;have hql:=Hy str (k:Nat) round (rules.take j) (rk,false);have hqs:=fun (h:j<rules.length)=>bn (gW str (k:Nat) round) (rk,false) rules h
           dsimp only at hql;rw [hrk] at hql;generalize hqe:((rules.take j).foldl (gW str (k:Nat) round) (rk,false))=q at hql hqs ⊢;(repeat (refine gw rfl ?_;conv=>whnf));rw [List.length_map];(split<;>rename_i hb<;>(try rw [hb])<;>(conv=>whnf))
           ·have hlj:j<rules.length:=(by simpa using hb);clear hb;specialize hqs hlj;have hrmj:=List.getElem_mem hlj;have hgj:(rules.map enG)[((j:Nat):Int).toNat]?=some (enG rules[j]):=ay hlj;generalize rules[j]=r at hqs hrmj hgj;have hmh:=hin.head r hrmj;have hmb:=hin.body r hrmj;have hfr:=hf r hrmj;have c2:=Tryz.Zp str q.1 round r (by omega) (by omega) (fun x hx=>by have:=hmb.1 x hx;omega) (fun x hx=>by have:=hmb.2 x hx;omega) (by omega);rw [hql] at c2;(repeat (refine gw rfl ?_;conv=>whnf));refine ⟨by omega,_,hgj,rfl,?_⟩;(conv=>whnf);(repeat (refine gw rfl ?_;conv=>whnf));refine ⟨hmh.1,_,OW (by omega),rfl,?_⟩;(conv=>whnf);have hP0:∀ b,((rkI str r.1==((k:Nat):Int))&&(decide (rkI q.1 r.1<0)&&tC str q.1 round r))=b→gW str (k:Nat) round q r=match b with | true=>(q.1.set r.1.toNat round,true) | false=>q:=fun b e=>by subst e;rfl
            cases he:(rkI str r.1==((k:Nat):Int)) with
            | false=>
              have hP:gW str (k:Nat) round q r=q:=hP0 false (by rw [he];rfl);(conv=>whnf);(repeat (refine gw rfl ?_;conv=>whnf));refine ⟨by omega,?_⟩;(conv=>whnf);refine ⟨j+1,[(60,some 60)],[],?_,by omega,by omega⟩;rw [hqs,hP];((conv=>whnf);repeat (first | exact ⟨⟩ | (refine ⟨by first | rfl | (simp;done) | (simp;omega),?_⟩;conv=>whnf)))
            | true=>
            (conv=>whnf);refine ⟨⟨hmh.1,by omega⟩,?_⟩;(conv=>whnf);refine ⟨_,sN (by omega),?_⟩;(conv=>whnf);cases hd:decide (rkI q.1 r.1<0) with
            | false=>
              have hP:gW str (k:Nat) round q r=q:=hP0 false (by rw [he,hd];rfl);(conv=>whnf);(repeat (refine gw rfl ?_;conv=>whnf));refine ⟨by omega,?_⟩;(conv=>whnf);refine ⟨j+1,[(60,some 60)],[],?_,by omega,by omega⟩;rw [hqs,hP];((conv=>whnf);repeat (first | exact ⟨⟩ | (refine ⟨by first | rfl | (simp;done) | (simp;omega),?_⟩;conv=>whnf)))
            | true=>
              (conv=>whnf);refine ⟨by omega,_,hgj,rfl,?_⟩;(conv=>whnf);refine .inr ⟨_,_,_,_,_,_,c2,[(200,60)],[],rfl,rfl,?_⟩;(conv=>whnf);refine ⟨rfl,?_⟩;(conv=>whnf);cases hfi:tC str q.1 round r with
              | false=>
                have hP:gW str (k:Nat) round q r=q:=hP0 false (by rw [he,hd,hfi];rfl);(conv=>whnf);(repeat (refine gw rfl ?_;conv=>whnf));refine ⟨by omega,?_⟩;(conv=>whnf);refine ⟨j+1,[(60,some 60)],[],?_,by omega,by omega⟩;rw [hqs,hP];((conv=>whnf);repeat (first | exact ⟨⟩ | (refine ⟨by first | rfl | (simp;done) | (simp;omega),?_⟩;conv=>whnf)))
              | true=>
                have hP:gW str (k:Nat) round q r=(q.1.set r.1.toNat round,true):=hP0 true (by rw [he,hd,hfi];rfl);(conv=>whnf);(repeat (refine gw rfl ?_;conv=>whnf));refine ⟨⟨hmh.1,by omega⟩,?_⟩;(conv=>whnf);refine ⟨rfl,_,sN (by omega),?_⟩;(conv=>whnf);refine .inl ⟨rfl,rfl,?_⟩;rw [Nat.zero_add,show (q.1.map enI).set r.1.toNat (.int .i64 round)=(q.1.set r.1.toNat round).map enI from List.map_set.symm];(conv=>whnf);(repeat (refine gw rfl ?_;conv=>whnf));refine ⟨by omega,?_⟩;(conv=>whnf);refine ⟨j+1,[(60,some 60)],[],?_,by omega,by omega⟩;rw [hqs,hP];((conv=>whnf);repeat (first | exact ⟨⟩ | (refine ⟨by first | rfl | (simp;done) | (simp;omega),?_⟩;conv=>whnf)))
           ·have hje:j=rules.length:=(by simp at hb;omega);subst hje;clear hb hqs;rw [List.take_length] at hqe;have hpass:Ar str (k:Nat) rules round rk=q:=hqe;obtain ⟨f,rfl⟩:∃ f,fuel=f+1:=⟨fuel-1,by omega⟩
            have hrr':∀ b,q.2=b→(match b with | true=>ng str (k:Nat) rules f (round+1) q.1 | false=>q.1)=fin:=fun b e=>by
             rw [← hrr];show _=match (Ar str (k:Nat) rules round rk).2 with | true=>ng str (k:Nat) rules f (round+1) (Ar str (k:Nat) rules round rk).1 | false=>(Ar str (k:Nat) rules round rk).1
             rw [hpass,e]
            have hqn:=(Es (str:=str) (s:=(k:Nat)) (round:=round) (by omega) (l:=rules) (q:=(rk,false)) fun r hr'=>by
             have:=hin.head r hr'
             dsimp only;omega).2
            rw [hqe] at hqn;(repeat (refine gw rfl ?_;conv=>whnf));refine ⟨by omega,?_⟩;(conv=>whnf);refine ⟨(round+1,q.1,q.2,f),[(60,some 60)],[],?_,⟨hql,by dsimp only;omega,by dsimp only;omega,fun h=>⟨?_,hrr' _ h⟩,fun h=>hrr' _ h⟩,by dsimp only;omega⟩
            ·((conv=>whnf);repeat (first | exact ⟨⟩ | (refine ⟨by first | rfl | (simp;done) | (simp;omega),?_⟩;conv=>whnf)))
            ·rcases hqn h with h' | h'
             ·cases h'
             ·dsimp only at h' ⊢;omega
      ·have hke:k=K:=(by simp at hb;omega);subst hke;clear hb;(repeat (refine gw rfl ?_;conv=>whnf));refine ⟨(jl str.length str rules facts k).map enI,by rw [List.drop_zero];exact List.take_of_length_le (by rw [List.length_map];omega),by rw [List.length_map];omega,?_⟩;conv=>whnf
theorem Tryz.Xp (atoms:List Tm) (rules:List Gr) (facts rk:List Int) (hrl:rk.length≤64) (hR:Pure Tryz.prog 60 [gD atoms rules,.list (facts.map enI)] [.list (rk.map enI),.int .i64 0]) :
  Pure Tryz.prog 21 [gD atoms rules,.list (facts.map enI)] [.list ((holdL rk rk.length).map enI),.int .i64 0]:=by
 refine Pure.of_wp hT (nt:=_) (c:=_) Tryz.func21 rfl rfl rfl rfl (by kernel_rfl) ?_;intro w0 ok0 β0;repeat (refine gw rfl ?_;conv=>whnf)
 refine .inl ⟨_,hR,.inl rfl,?_⟩;conv=>whnf
 repeat (refine gw rfl ?_;conv=>whnf)
 refine WP.loop (α:=Nat) (fun i=>⟨[(6,.d (.list (rk.map enI))),(7,.d (.int .i64 0)),(8,.sl 50 1 0 (holdL rk i).length),(9,.d (.int .i64 i))],[((50,0),some (.arr 1 ((holdL rk i).map enI)))],[50]⟩)
  (fun i=>i≤rk.length) (fun i=>rk.length-i) 0 [(50,none)] [] ?_ ?_ ?_
 ·((conv=>whnf);repeat (first | exact ⟨⟩ | (refine ⟨by first | rfl | (simp;done) | (simp;omega),?_⟩;conv=>whnf)))
 ·exact Nat.zero_le _
 ·intro i hi;have hsu:=D8 rk i;have hll:=uM rk i;generalize hSe:holdL rk i=S at hsu hll ⊢;repeat (refine gw rfl ?_;conv=>whnf)
  rw [List.length_map];(split<;>rename_i hb<;>(try rw [hb])<;>(conv=>whnf))
  ·have hlt:i<rk.length:=(by simpa using hb);clear hb;have hhr:∀ b,decide (rk[i]≥0)=b→JF rk i=b:=fun b e=>by subst e;unfold JF;simp [hlt]
   (repeat (refine gw rfl ?_;conv=>whnf));refine ⟨by omega,_,ay hlt,rfl,?_⟩;(conv=>whnf);(repeat (refine gw rfl ?_;conv=>whnf));cases hd:decide (rk[i]≥0) with
   | false=>
     rw [hhr _ hd] at hsu;(conv=>whnf);(repeat (refine gw rfl ?_;conv=>whnf));refine ⟨by omega,?_⟩;(conv=>whnf);refine ⟨i+1,[(50,some 50)],[],?_,by omega,by omega⟩;rw [hsu,List.append_nil];((conv=>whnf);repeat (first | exact ⟨⟩ | (refine ⟨by first | rfl | (simp;done) | (simp;omega),?_⟩;conv=>whnf)))
   | true=>
     rw [hhr _ hd] at hsu;(conv=>whnf);repeat (refine gw rfl ?_;conv=>whnf)
     (refine ⟨rfl,?_⟩;(conv=>whnf);refine ⟨_,(congrArg (List.take _) List.drop_zero).trans (List.take_of_length_le (by first | (simp;done) | (simp;omega))),by first | (simp;done) | (simp;omega),?_⟩;(conv=>whnf);refine ⟨_,rfl,Nat.le_refl _,?_⟩;(conv=>whnf);refine ⟨by show (_+1)*8≤_;first | (simp;done) | (simp;omega),?_⟩;(conv=>whnf))
     (repeat (refine gw rfl ?_;conv=>whnf));refine ⟨by omega,?_⟩;(conv=>whnf);refine ⟨i+1,[(50,some 30)],[],?_,by omega,by omega⟩;rw [hsu,List.map_append,List.map_singleton,List.length_append,List.length_singleton];((conv=>whnf);repeat (first | exact ⟨⟩ | (refine ⟨by first | rfl | (simp;done) | (simp;omega),?_⟩;conv=>whnf)))
  ·have hie:i=rk.length:=(by simp at hb;omega);subst hie;clear hb hsu;rw [hSe];(repeat (refine gw rfl ?_;conv=>whnf));refine ⟨S.map enI,by rw [List.drop_zero];exact List.take_of_length_le (by simp),by simp,?_⟩;conv=>whnf
end Go.Proofs.YtdonenoiehdahaaGreat
