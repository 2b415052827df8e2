/- Sim: observe.Text of one observation. -/
import Derived.Test.YtbhfbliodeagmaaGreatDoorSimPaOne
import Derived.Test.YtbhfbliodeagmaaGreatDoorTextCAnd
set_option linter.all false
namespace Go.Proofs.YtbhfbliodeagmaaGreatDoor
open Go Go.Sim Go.RowKit
noncomputable def Wi:List Fact:=[⟨[(.sl ⟨6⟩ 3 0 1 (some 1))],[(6,.blk false 3 [(.str 4 2002872692),.aj,(.sl ⟨7⟩ 2 0 1 none)]),(7,.blk false 2 [(.str 5 491327153273),(.sl ⟨8⟩ 2 0 0 (some 0))])],9,(.str 12 36946479965734169504456669450),[],[6,7],[],9⟩,⟨[(.sl ⟨6⟩ 3 0 1 none)],[(6,.blk false 3 [(.str 4 2002872692),.aj,.aj])],7,(.str 7 33602627777994762),[],[6],[],7⟩]
theorem cellOf {T:Nat→Abs.TE} {w0:World} {ng:Nat} {g:Gh} {hp:B→Option Sim.Obj} {t:Tr Sim.Obj} {nx:B} {w:World} (h:HR T w0 ng g hp nx w) (hs:Sub t hp) {i:B} {ro:Bool} {sz hi:Nat} {l:List V} (hg:i.get t=some (.blk ro sz hi (eu l .lf 0))) {j:Nat} {v:V} (hj:l[j]?=some v) :
  ∃ u,w.cell? ⟨(g i).b,(g i).o+j,none⟩=some u∧RV g nx.num v u:=by
 have hv:(bOf j).get (eu l .lf 0)=some v:=by
  rw [bT,if_pos ⟨Nat.zero_le _,by have:=(List.getElem?_eq_some_iff.1 hj).1;omega⟩]
  exact hj
 obtain ⟨u,h1,h2,_⟩:=h.cell hs hg hv
 exact ⟨u,h1,h2⟩
theorem at6 (fo:FO):(bOf 6).get (eF [(6,fo)] .lf)=some fo.obj:=B.cZ _ _ _
theorem KI (fo fo':FO):(bOf 6).get (eF [(6,fo),(7,fo')] .lf)=some fo.obj∧(bOf 7).get (eF [(6,fo),(7,fo')] .lf)=some fo'.obj:=by
 constructor
 ·show (bOf 6).get ((bOf 7).put ((bOf 6).put .lf (some fo.obj)) (some fo'.obj))=_
  rw [B.get_put,if_neg (fun e=>by have:=ni e;omega),B.cZ]
 ·show (bOf 7).get ((bOf 7).put ((bOf 6).put .lf (some fo.obj)) (some fo'.obj))=_
  rw [B.cZ]
theorem FO.Dl (fo:FO):fo.In fo.obj:=by
 cases fo with
 | map kt es=>exact .map kt es
 | blk ro sz cs=>
   refine .blk _ _ _ _ _ _ (Nat.le_refl _) fun j v hv=>?_
   rw [bT,if_pos ⟨Nat.zero_le _,by have:=(List.getElem?_eq_some_iff.1 hv).1;omega⟩]
   exact hv
theorem vK {ng:Nat} (hng:ng≠0) {w w':World} (h:Below w.heap.size w w'):Like ng w w'∧∀ b,b<w.heap.size→w'.heap[b]?=w.heap[b]?:=⟨⟨h.os,h.tape,h.output,h.size,fun e=>absurd e hng⟩,h.block⟩
theorem U1 {g:Gh} {n:Nat} {i:B} {sz off:Nat} {cap:Option Nat} {x:Value} (h:RV g n (.sl i sz off 0 cap) x):∃ a c,x = .slice a 0 c:=by
 cases h with
 | sl _ _ _ _ _ a c _ _ _ _ _ _ _=>exact ⟨_,_,rfl⟩
theorem Oh (w0:World):∀ F∈Wi,aZ Tryz.prog T w0 6 10 F:=by
 refine aJ ?_ (aJ ?_ oO)
 ·refine sQ ⟨_,Tryz.func10,by kernel_rfl,rfl⟩ (by decide) rfl rfl rfl (by decide) (fun x hx=>?_) fun g hp w vs g1 g2 g3=>?_
  ·rcases List.mem_cons.1 hx with rfl | hx
   ·exact ⟨_,(KI _ _).1,FO.Dl _⟩
   ·rcases List.mem_cons.1 hx with rfl | hx
    ·exact ⟨_,(KI _ _).2,FO.Dl _⟩
    ·cases hx
  ·obtain ⟨u,vs,rfl,hu,g3⟩:=g3.inv
   have:=g3.iI
   subst this
   obtain ⟨u0,c0,r0⟩:=cellOf g1 g2 (KI _ _).1 (j:=0) rfl
   obtain ⟨u1,c1,r1⟩:=cellOf g1 g2 (KI _ _).1 (j:=1) rfl
   obtain ⟨u2,c2,r2⟩:=cellOf g1 g2 (KI _ _).1 (j:=2) rfl
   obtain ⟨v0,d0,s0⟩:=cellOf g1 g2 (KI _ _).2 (j:=0) rfl
   obtain ⟨v1,d1,s1⟩:=cellOf g1 g2 (KI _ _).2 (j:=1) rfl
   obtain ⟨cur,Tb,fz,hw6,_⟩:=g1.blk g2 (KI _ _).1
   obtain ⟨cur7,Tb7,fz7,hw7,_⟩:=g1.blk g2 (KI _ _).2
   have hb6:=(Array.getElem?_eq_some_iff.1 hw6).1
   have hb7:=(Array.getElem?_eq_some_iff.1 hw7).1
   obtain rfl:=nG [119,97,105,116] rfl (by decide) r0
   obtain rfl:=nG [114,101,97,100,121] rfl (by decide) s0
   obtain ⟨a,c,rfl⟩:=U1 s1
   cases r1
   cases hu with
   | sl _ _ _ _ _ a6 c6 q1 q2 q3 q4 q5 q6 e6=>
   obtain rfl:=e6 (by omega)
   cases r2 with
   | sl _ _ _ _ _ a7 c7 p1 p2 p3 p4 p5 p6 e7=>
   obtain rfl:=e7 (by omega)
   have:=Tryz.Iu (g ⟨6⟩).b ((g ⟨6⟩).o+0) c6 [119,97,105,116] [114,101,97,100,121] none 0 _ 1 c7 w hb6 (by simp) (by simp) (by simp) c0 c1 c2 fun W hW=>
    Tryz.Wn (g ⟨7⟩).b ((g ⟨7⟩).o+0) c7 [114,101,97,100,121] a c W (Nat.lt_of_lt_of_le hb7 hW.size) (by simp) (by simp) ((hW.cell (p:=⟨_,_,none⟩) hb7).trans d0) ((hW.cell (p:=⟨_,_,none⟩) hb7).trans d1)
   refine this.mono ?_
   rintro e w' ⟨rfl,hB⟩
   exact ⟨_,rfl,lg [119,97,105,116,58,32,114,101,97,100,121,10] rfl (by decide) (by decide),vK (by decide) hB⟩
 ·refine sQ ⟨_,Tryz.func10,by kernel_rfl,rfl⟩ (by decide) rfl rfl rfl (by decide) (fun x hx=>?_) fun g hp w vs g1 g2 g3=>?_
  ·rcases List.mem_cons.1 hx with rfl | hx
   ·exact ⟨_,at6 _,FO.Dl _⟩
   ·cases hx
  ·obtain ⟨u,vs,rfl,hu,g3⟩:=g3.inv
   have:=g3.iI
   subst this
   obtain ⟨u0,c0,r0⟩:=cellOf g1 g2 (at6 _) (j:=0) rfl
   obtain ⟨u1,c1,r1⟩:=cellOf g1 g2 (at6 _) (j:=1) rfl
   obtain ⟨u2,c2,r2⟩:=cellOf g1 g2 (at6 _) (j:=2) rfl
   obtain ⟨cur,Tb,fz,hw6,_⟩:=g1.blk g2 (at6 _)
   have hb6:=(Array.getElem?_eq_some_iff.1 hw6).1
   obtain rfl:=nG [119,97,105,116] rfl (by decide) r0
   cases r1
   cases r2
   cases hu with
   | sl _ _ _ _ _ a6 c6 q1 q2 q3 q4 q5 q6 e6=>
   obtain rfl:=e6 (by omega)
   refine (Tryz.Iu (g ⟨6⟩).b ((g ⟨6⟩).o+0) c6 [119,97,105,116] [] none 0 none 0 0 w hb6 (by simp) (by simp) (by simp) c0 c1 c2 fun W hW=>(Tryz.FW none 0 W).mono ?_).mono ?_
   ·rintro e w' ⟨rfl,rfl⟩
    exact ⟨rfl,Below.refl _ _⟩
   ·rintro e w' ⟨rfl,hB⟩
    exact ⟨_,rfl,lg [119,97,105,116,58,32,10] rfl (by decide) (by decide),vK (by decide) hB⟩
end Go.Proofs.YtbhfbliodeagmaaGreatDoor
