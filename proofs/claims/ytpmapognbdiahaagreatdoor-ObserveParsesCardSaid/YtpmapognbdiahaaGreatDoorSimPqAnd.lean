/- Sim: observe.Text and observe.Parse, out of their general contracts. -/
import Derived.Test.YtpmapognbdiahaaGreatDoorSimPbOne
import Derived.Test.YtpmapognbdiahaaGreatDoorSimFtOne
import Derived.Test.YtpmapognbdiahaaGreatDoorPvEOne
import Derived.Test.YtpmapognbdiahaaGreatDoorSimW3And
set_option linter.all false
namespace Go.Sim
open Go Go.RowKit
open Go.Abs (TE TK SK TOK)
theorem Step.skip {T:Nat→TE} {w0:World} {ng:Nat} {g:Gh} {hp:B→Option Obj} {t:Tr Obj} {nx:B} {w:World} (h:HR T w0 ng g hp nx w) (hs:Sub t hp) (pl:Pl):Step T w0 ng g hp t nx w (dL g nx pl) hp t nx.inc w:=by
 have hnx:=B.fO nx;have hext:Ext g (dL g nx pl) nx.num:=lC (Nat.le_refl _);have hg:∀ id o,hp id=some o→dL g nx pl id=g id:=fun id o ho=>hext id (h.obj id o ho).1
 refine ⟨hext,by omega,⟨h.os,h.tape,h.output,h.size,h.old,fun id o ho=>⟨by have:=(h.obj id o ho).1;omega,(h.obj id o ho).2.mono hext (by omega) (h.obj id o ho).1 rfl⟩,fun id id' o o' h1 h2 h3 h4=>by rw [hg _ _ h1,hg _ _ h2];exact h.sep id id' o o' h1 h2 h3 h4,fun id o h1 h2=>by rw [hg _ _ h1];exact h.new id o h1 h2,fun i hi=>by rw [hext (bOf i) (by rw [qx];have:=h.ngx;omega)];exact h.glob i hi,by have:=h.ngx;omega⟩,hs,fun _ _ _=>rfl,fun _ _ h=>h,Nat.le_refl _,fun _=>Nat.le_refl _,fun _ _ _=>rfl,fun id o h1 h2 => .inr ⟨id,o,h1,h2,(by rw [hg _ _ (hs _ _ h1)])⟩,fun id o h1 h2=>absurd (h.obj id o h1).1 (by omega)⟩
end Go.Sim
namespace Go.Proofs.YtpmapognbdiahaaGreatDoor
open Go Go.Sim Go.RowKit Go.Proofs Go.Own
theorem cellOf {T:Nat→Abs.TE} {w0:World} {ng:Nat} {g:Gh} {hp:B→Option Sim.Obj} {t:Tr Sim.Obj} {nx:B} {w:World} (h:HR T w0 ng g hp nx w) (hs:Sub t hp) {i:B} {ro:Bool} {sz hi:Nat} {l:List V} (hg:i.get t=some (.blk ro sz hi (fB l .lf 0))) {j:Nat} {v:V} (hj:l[j]?=some v) :
  ∃ u,w.cell? ⟨(g i).b,(g i).o+j,none⟩=some u∧RV g nx.num v u:=by
 have hv:(bOf j).get (fB l .lf 0)=some v:=by
  rw [bY,if_pos ⟨Nat.zero_le _,by have:=(List.getElem?_eq_some_iff.1 hj).1;omega⟩];exact hj
 obtain ⟨u,h1,h2,_⟩:=h.cell hs hg hv;exact ⟨u,h1,h2⟩
theorem Gt (fo fo':FO):(bOf 6).get (eY [(6,fo),(7,fo')] .lf)=some fo.obj∧(bOf 7).get (eY [(6,fo),(7,fo')] .lf)=some fo'.obj:=by
 constructor
 ·show (bOf 6).get ((bOf 7).put ((bOf 6).put .lf (some fo.obj)) (some fo'.obj))=_;rw [B.get_put,if_neg (fun e=>by have:=lF e;omega),B.bU]
 ·show (bOf 7).get ((bOf 7).put ((bOf 6).put .lf (some fo.obj)) (some fo'.obj))=_;rw [B.bU]
theorem FO.zK (fo:FO):fo.In fo.obj:=by
 cases fo with
 | map kt es=>exact .map kt es
 | blk ro sz cs=>
   refine .blk _ _ _ _ _ _ (Nat.le_refl _) fun j v hv=>?_
   rw [bY,if_pos ⟨Nat.zero_le _,by have:=(List.getElem?_eq_some_iff.1 hv).1;omega⟩];exact hv
theorem zG {ng:Nat} (hng:ng≠0) {w w':World} (h:Below w.heap.size w w'):Like ng w w'∧∀ b,b<w.heap.size→w'.heap[b]?=w.heap[b]?:=⟨⟨h.os,h.tape,h.output,h.size,fun e=>absurd e hng⟩,h.block⟩
theorem DN {ok:Nat→Prop} {w:World} {v:Value} (h:Abs.RdD ok w v (.list [])):∃ a c,v = .slice a 0 c∧∃ pl:Pl,∀ (g:Gh) (n:Nat) (id:B),g id=pl→id.num<n→RV g n (.sl id 2 0 0 none) v:=by
 generalize hd:Abs.D.list []=d at h;cases h with
 | mO a=>exact ⟨a,0,rfl,⟨0,0,0⟩,fun g n id hg hn => .sl id 2 0 0 none a 0 hn (Nat.le_refl _) (Nat.zero_le _) (fun k h=>by cases h) (by decide) (by rw [hg];exact Nat.le_refl _) (fun h=>absurd h (Nat.lt_irrefl _))⟩
 | lst a cap sz xs us hb hs hl hm hsz hlen hcell hrd=>
   obtain rfl:xs=[]:=by cases hd;rfl
   obtain ⟨bk,o,sp⟩:=a;simp only at hs;subst hs;exact ⟨_,cap,rfl,⟨bk,o,cap*2⟩,fun g n id hg hn => .sl id 2 0 0 none _ cap hn (Nat.zero_le _) hm (fun k h=>by cases h) (by decide) (by rw [hg];exact Nat.le_of_eq (Nat.zero_add _)) (fun _=>by rw [hg];rfl)⟩
 | _=>cases hd
theorem Si {ok:Nat→Prop} {w:World} {a:Addr} {cap:Nat} (d:Abs.D) (us:List Value) (hok:ok a.block) (hs:a.spot=none) (hc:1≤cap) (hm:cap≤maxLen) (hp:0<us.length) (hl:(Abs.D.cells d).length=us.length)
  (h:∀ (j:Nat) u c,us[j]?=some u→(Abs.D.cells d)[j]?=some c→w.cell? ⟨a.block,a.off+j,none⟩=some u∧u.oneCell'=true∧Abs.D.one c=true∧Abs.RdD ok w u c):Abs.RdD ok w (.slice (some a) 1 cap) (.list [d]):=by
 have key:∀ (i:Nat) x (j:Nat) c,[d][i]?=some x→(Abs.D.cells x)[j]?=some c→i=0∧x=d∧us[j]?=some (us.getD j .nilIface):=fun i x j c hx hcj=>by
  have hi:i=0:=by have:=(List.getElem?_eq_some_iff.1 hx).1;simp at this;exact this
  subst hi;obtain rfl:d=x:=by simpa using hx
  have hj:j<us.length:=by rw [← hl];exact (List.getElem?_eq_some_iff.1 hcj).1
  exact ⟨rfl,rfl,by rw [List.getD_eq_getElem?_getD,List.getElem?_eq_getElem hj];rfl⟩
 refine .lst a cap us.length [d] (fun _ j=>us.getD j .nilIface) hok hs hc hm hp (fun i x hx=>?_) (fun i x j c hx hcj=>?_) (fun i x j c hx hcj=>?_)
 ·have hi:i=0:=by have:=(List.getElem?_eq_some_iff.1 hx).1;simp at this;exact this
  subst hi;obtain rfl:d=x:=by simpa using hx
  exact hl
 ·obtain ⟨rfl,rfl,hu⟩:=key i x j c hx hcj;obtain ⟨q1,q2,q3,_⟩:=h j _ c hu hcj;exact ⟨by simpa using q1,q2,q3⟩
 ·obtain ⟨rfl,rfl,hu⟩:=key i x j c hx hcj;exact (h j _ c hu hcj).2.2.2
noncomputable def Ru:List Fact:=[⟨[(.sl ⟨6⟩ 3 0 1 (some 1))],[(6,.blk false 3 [(.str 4 2002872692),.aj,(.sl ⟨7⟩ 2 0 1 none)]),(7,.blk false 2 [(.str 5 491327153273),(.sl ⟨8⟩ 2 0 0 (some 0))])],9,(.str 12 36946479965734169504456669450),[],[6,7],[],9⟩]
theorem Js (w0:World):∀ F∈Ru,bD Tryz.prog T w0 6 15 F:=by
 refine aK ?_ qm;refine DJ ⟨_,Tryz.func15,by kernel_rfl,rfl⟩ (by decide) rfl rfl rfl (by decide) (fun x hx=>?_) fun g hp w vs g1 g2 g3=>?_
 ·rcases List.mem_cons.1 hx with rfl | hx
  ·exact ⟨_,(Gt _ _).1,FO.zK _⟩
  ·rcases List.mem_cons.1 hx with rfl | hx
   ·exact ⟨_,(Gt _ _).2,FO.zK _⟩
   ·cases hx
 ·obtain ⟨u,vs,rfl,hu,g3⟩:=g3.inv;have:=g3.jH;subst this;obtain ⟨u0,c0,r0⟩:=cellOf g1 g2 (Gt _ _).1 (j:=0) rfl;obtain ⟨u1,c1,r1⟩:=cellOf g1 g2 (Gt _ _).1 (j:=1) rfl;obtain ⟨u2,c2,r2⟩:=cellOf g1 g2 (Gt _ _).1 (j:=2) rfl;obtain ⟨v0,d0,s0⟩:=cellOf g1 g2 (Gt _ _).2 (j:=0) rfl;obtain ⟨v1,d1,s1⟩:=cellOf g1 g2 (Gt _ _).2 (j:=1) rfl;obtain ⟨cur,Tb,fz,hw6,_⟩:=g1.blk g2 (Gt _ _).1;obtain ⟨cur7,Tb7,fz7,hw7,_⟩:=g1.blk g2 (Gt _ _).2;have hb6:=(Array.getElem?_eq_some_iff.1 hw6).1;have hb7:=(Array.getElem?_eq_some_iff.1 hw7).1;obtain rfl:=rD [119,97,105,116] rfl (by decide) r0;obtain rfl:=rD [114,101,97,100,121] rfl (by decide) s0;cases r1;cases hu with
  | sl _ _ _ _ _ a6 c6 q1 q2 q3 q4 q5 q6 e6=>
  obtain rfl:=e6 (by omega);cases r2 with
  | sl _ _ _ _ _ a7 c7 p1 p2 p3 p4 p5 p6 e7=>
  obtain rfl:=e7 (by omega);obtain ⟨a1,c8,rfl,_⟩:∃ a c,v1 = .slice a 0 c∧c=0:=by
   cases s1 with
   | sl _ _ _ _ _ a c _ _ _ h4 _ _ _=>exact ⟨a,c,rfl,h4 0 rfl⟩
  have hc8:c8=0:=by assumption
  subst hc8;have hm7:c7≤maxLen:=p3;have hm6:c6≤maxLen:=q3;have hrd:Abs.RdD (fun k=>k<w.heap.size) w (.slice (some ⟨(g ⟨6⟩).b,(g ⟨6⟩).o+0,none⟩) 1 c6) (.list ([((.mk [119,97,105,116] [],[.mk [114,101,97,100,121] []]):Sn)].map enS)):=by
   refine Si (enS (.mk [119,97,105,116] [],[.mk [114,101,97,100,121] []])) [.string ⟨#[119,97,105,116]⟩,.slice none 0 0,.slice (some ⟨(g ⟨7⟩).b,(g ⟨7⟩).o+0,none⟩) 1 c7] hb6 rfl q2 hm6 (by simp) rfl fun j u c hu hc=>?_
   match j,hu,hc with
   | 0,hu,hc=>simp at hu;subst hu;cases hc;exact ⟨c0,rfl,rfl,.str [119,97,105,116] (by decide)⟩
   | 1,hu,hc=>simp at hu;subst hu;cases hc;exact ⟨c1,rfl,rfl,.mO none⟩
   | 2,hu,hc=>
     simp at hu;subst hu;cases hc;refine ⟨c2,rfl,rfl,Si (enT (.mk [114,101,97,100,121] [])) [.string ⟨#[114,101,97,100,121]⟩,.slice a1 0 0] hb7 rfl p2 hm7 (by simp) rfl fun j u c hu hc=>?_⟩
     match j,hu,hc with
     | 0,hu,hc=>simp at hu;subst hu;cases hc;exact ⟨d0,rfl,rfl,.str [114,101,97,100,121] (by decide)⟩
     | 1,hu,hc=>simp at hu;subst hu;cases hc;exact ⟨d1,rfl,rfl,.mO a1⟩
     | j+2,hu,_=>simp at hu
   | j+3,hu,_=>simp at hu
  refine (Tryz.Rt [(.mk [119,97,105,116] [],[.mk [114,101,97,100,121] []])] w _ hrd (by decide) (by decide)).mono ?_;rintro e w' ⟨rfl,hB⟩;exact ⟨_,rfl,Rx [119,97,105,116,58,32,114,101,97,100,121,10] rfl (by decide) (by decide),zG (by decide) hB⟩
noncomputable def FF1:Nat→Option FC:=ovl T 6 15 afn Ru FF
theorem hF1 (w0:WM):dY Tryz.prog T w0 6 FF1:=dD (hF w0) (Js w0) (b15 w0 6)
def wordsO:Nat×FO:=(2,.blk true 3 [(.str 2 26982),(.str 3 6385252),(.str 3 7237492)])
noncomputable def parse1F:Fact:=⟨[(.str 6 131260264757770)],[wordsO],6,(.tup [.aj,(.int .i64 (.ofNat 1))]),[],[2],[],6⟩
noncomputable def parse2F:Fact:=⟨[(.str 7 33602627777994762)],[wordsO],6,(.tup [(.sl ⟨8⟩ 3 0 1 none),(.int .i64 (.ofNat 0))]),[],[2],[(8,.blk false 3 [(.str 4 2002872692),.sl ⟨6⟩ 2 0 0 none,.sl ⟨7⟩ 2 0 0 none])],9⟩
theorem Bg (w0:WM) {g:Gh} {hp:B→Option Sim.Obj} {nx:B} {w:World} (g1:HR T w0 6 g hp nx w) (g2:Sub (eY [wordsO] .lf) hp):Tryz.Env w:=by
 have hbl:∀ fo:FO,(bOf 2).get (eY [(2,fo)] .lf)=some fo.obj:=fun fo=>B.bU _ _ _
 obtain ⟨e1,e2⟩:=g1.glob 2 (by decide);obtain ⟨u0,c0,r0⟩:=cellOf g1 g2 (hbl _) (j:=0) rfl;obtain ⟨u1,c1,r1⟩:=cellOf g1 g2 (hbl _) (j:=1) rfl;obtain ⟨u2,c2,r2⟩:=cellOf g1 g2 (hbl _) (j:=2) rfl;obtain rfl:=rD [105,102] rfl (by decide) r0;obtain rfl:=rD [97,110,100] rfl (by decide) r1;obtain rfl:=rD [110,111,116] rfl (by decide) r2;rw [e1,e2] at c0 c1 c2;exact ⟨⟨c0,c1,c2⟩,WM.cell w0 g1⟩
theorem Hq (w0:WM):bD Tryz.prog T w0 6 5 parse1F:=by
 have hbl:∀ fo:FO,(bOf 2).get (eY [(2,fo)] .lf)=some fo.obj:=fun fo=>B.bU _ _ _
 refine DJ ⟨_,Tryz.func5,by kernel_rfl,rfl⟩ (by decide) rfl rfl rfl (by decide) (fun x hx=>?_) fun g hp w vs g1 g2 g3=>?_
 ·obtain rfl:=List.mem_singleton.1 hx;exact ⟨_,hbl _,FO.zK _⟩
 ·obtain ⟨u,vs,rfl,hu,g3⟩:=g3.inv;have:=g3.jH;subst this;obtain rfl:=rD [119,97,105,116,58,10] rfl (by decide) hu;have hp:yX [119,97,105,116,58,10]=none:=by kernel_rfl
  have c:=Tryz.J8 [119,97,105,116,58,10] (by decide) w (Bg w0 g1 g2);rw [hp] at c;refine c.mono ?_;rintro e w' ⟨hB,⟨x,val,h,_⟩ | ⟨_,rfl⟩⟩
  ·cases h
  refine ⟨_,rfl,.tup _ _ rfl fun i c v hc hv=>?_,zG (by decide) hB⟩
  match i,hc,hv with
  | 0,hc,hv=>simp at hc hv;subst hc;subst hv;exact .aj
  | 1,hc,hv=>simp at hc hv;subst hc;subst hv;exact .int _ _
  | i+2,hc,hv=>simp at hc
theorem Ho (w0:WM):bD Tryz.prog T w0 6 5 parse2F:=by
 have hbl:∀ fo:FO,(bOf 2).get (eY [(2,fo)] .lf)=some fo.obj:=fun fo=>B.bU _ _ _
 refine ⟨by decide,by decide,fun x hx => .inr ?_,fun i hi=>(by cases hi),fun x hx => .inl ?_,(⟨8⟩:B).put (eY [wordsO] .lf) (some (.blk false 3 3 (fB [(.str 4 2002872692),.sl ⟨6⟩ 2 0 0 none,.sl ⟨7⟩ 2 0 0 none] .lf 0))),⟨⟨_,Tryz.func5,by kernel_rfl,rfl⟩,fun g hp w vs g1 g2 g3=>?_⟩,fun x hx=>?_,fun x hx _=>?_⟩
 ·obtain rfl:=List.mem_singleton.1 hx;exact List.mem_cons_self
 ·obtain rfl:=List.mem_singleton.1 hx;exact (by decide:(6:Nat)≤8)
 ·obtain ⟨u,vs,rfl,hu,g3⟩:=g3.inv;have:=g3.jH;subst this;obtain rfl:=rD [119,97,105,116,58,32,10] rfl (by decide) hu;have hpr:yX [119,97,105,116,58,32,10]=some [(.mk [119,97,105,116] [],[])]:=by kernel_rfl
  have c:=Tryz.J8 [119,97,105,116,58,32,10] (by decide) w (Bg w0 g1 g2);rw [hpr] at c;refine c.mono ?_;rintro e w' ⟨hB,h⟩;obtain ⟨x,val,hx,he,B0,hB0,vals,hrow,hdat⟩:=h.resolve_right (fun h=>by cases h.1);subst he;obtain rfl:=Option.some.inj hx;clear h hx;obtain ⟨f1,f2⟩:=hdat 0 (enS (.mk [119,97,105,116] [],[])) rfl;obtain ⟨v0,e0,r0,_⟩:=f2 0 (.str [119,97,105,116]) rfl;obtain ⟨v1,e1,r1,_⟩:=f2 1 (.list []) rfl;obtain ⟨v2,e2,r2,_⟩:=f2 2 (.list []) rfl;cases r0;obtain ⟨a1,k1,rfl,p1,q1⟩:=DN r1;obtain ⟨a2,k2,rfl,p2,q2⟩:=DN r2;obtain rfl:vals=[.string ⟨#[119,97,105,116]⟩,.slice a1 0 k1,.slice a2 0 k2]:=by
   have hl:=hrow.1
   match vals,hl with
   | [x0,x1,x2],_=>simp at e0 e1 e2;rw [e0,e1,e2]
  have s1:=Step.skip g1 g2 p1;have s2:=Step.skip s1.hr s1.sub p2;have hw:w'.ownsRow w.heap.size 44 3 val 1 [.string ⟨#[119,97,105,116]⟩,.slice a1 0 k1,.slice a2 0 k2]:=by
   obtain ⟨hl,h | ⟨gb,cp,cur,h1,h2,h3⟩⟩:=hrow
   ·cases h.2
   ·exact ⟨hl,.inr ⟨gb,cp,cur,h1,by omega,h3⟩⟩
  obtain ⟨g',hp',s3,hv⟩:=yG (e:=44) (sz:=3) (n:=1) (vs:=[(.str 4 2002872692),.sl ⟨6⟩ 2 0 0 none,.sl ⟨7⟩ 2 0 0 none]) (by decide) s2.hr s2.sub hB hw (by decide) (by decide)
   (.cons (Rx [119,97,105,116] rfl (by decide) (by decide)) (.cons (q1 _ _ _ (by rfl) (by decide)) (.cons (q2 _ _ _ (by rfl) (by decide)) .nil))) (by
    intro u hu;simp only [List.mem_cons,List.not_mem_nil,or_false] at hu
    rcases hu with rfl | rfl | rfl<;>rfl)
  refine ⟨g',hp',_,rfl,(s1.trans s2).trans s3,.tup _ _ rfl fun i c v hc hv'=>?_⟩
  match i,hc,hv' with
  | 0,hc,hv'=>simp at hc hv';subst hc;subst hv';exact hv
  | 1,hc,hv'=>simp at hc hv';subst hc;subst hv';exact .int _ _
  | i+2,hc,hv'=>simp at hc
 ·obtain rfl:=List.mem_singleton.1 hx;exact ⟨_,B.bU _ _ _,FO.zK _⟩
 ·obtain rfl:=List.mem_singleton.1 hx;refine ⟨_,?_,FO.zK _⟩;show (bOf 2).get ((⟨8⟩:B).put _ _)=_;rw [B.get_put,if_neg (fun e=>by cases e)];exact hbl _
noncomputable def FF2:Nat→Option FC:=ovl T 6 5 fe5 [parse1F,parse2F] FF1
theorem hF2 (w0:WM):dY Tryz.prog T w0 6 FF2:=dD (hF1 w0) (aK (Hq w0) (aK (Ho w0) qm)) (b5 w0 6)
end Go.Proofs.YtpmapognbdiahaaGreatDoor
namespace Go.Proofs.YtpmapognbdiahaaGreatDoor
open Go Go.Sim
def z0:V := .str 4 1953658213
def z1:V := .str 5 465557741932
def z2:V := .str 4 1937007984
def z3:V := .str 4 1685022067
def z4:V := .str 1 120
def z5:V := .str 4 1852143732
def z6:V := .str 6 109299962372965
def z7:V := .str 5 448377480307
def z8:V := .str 5 499850505331
def z9:V := .str 4 1953461107
def z10:V := .str 1 48
def z11:V := .str 5 444351214451
def z12:V := .str 4 1668245870
def z13:V := .str 4 1919904869
def z14:V := .str 4 2002872692
def z15:V := .str 1 49
def z16:V := .str 1 50
def z17:V := .str 4 1768843636
def z18:V := .str 4 1735352684
def z19:V := .str 3 7827310
def z20:V := .str 4 1936024947
def z21:V := .str 8 8387235695293260140
def z22:V := .str 1 67
def z23:V := .str 5 491327153273
def z24:V := .str 576 6259503237976136864757016322635236165569858586165393705625396260632239897741161865910007179885038344334044352209087749394462789404597182300011703006870998481259688993992020576407671322857197494150402868332309099775205805159217463248958833033530605950826958822937723514164340192284699273115424054701146929672913265426024605347719035681415905349866858872932545313496143428047988246318612242507119566292315007790991622674816667999915662107205626149337177458462173422904479464539843056297216791079570874861041242172266663898796857127375520931987518194347749871468717324159694855171405779608859327578679925162376766841920760822348704975550934281078467095657855372783998929227177959498704313731308825049083027885304575795383102562378577821749492874701956307849395355743553376807878106999886195099318882385992450500781524528426840045924714581356799250005661270471361635218330600162146715501368160366285793527619610120243334860169051016559301509903728238176408618806673243100764398565009261179747822330817804706599811036671317434699805290011511096037961255619558583594908628278945287916938192068656804058381216564327092528239026831974784733925349916191361708326945625859291636276422879496546250264242621629689514331393834318813233049435153447340465288001021423931148017169537170537947887802222269742273985944949816129356385752536563969757677218291149409224488305100826165309393517824820445260078
def z25:V := .str 0 0
def z26:V := .str 3 3223600
def z27:V := .str 8 7235441220169655156
def Z0:V:=i6 0
def Z1:V:=i6 1
def Z2:V:=i6 2
def Z3:V:=sn 8 2 1
def Z4:V:=sn 6 2 1
def Z5:V:=i6 3
def Z6:V:=i6 5
def Z7:V:=sn 9 2 1
def Z8:V:=i6 4
def Z9:V:=sn 6 2 2
def Za:V:=n6 0
def Zb:V:=i6 6
def Zc:V:=sn 7 2 1
def Zd:V:=sn 7 2 2
def Ze:V:=sc 7 2 0 1 1
def Zf:V:=i6 7
def Zg:V:=sn 10 2 1
def Zh:V:=sc 7 2 0 2 2
def Zi:V:=i6 12
def Zj:V:=i6 13
def Zk:V:=i6 9
def Zl:V:=sn 38 2 1
def Zm:V:=sn 17 2 2
def Zn:V:=i6 10
def Zo:V:=i6 8
def Zp:V:=sn 11 2 1
def Zq:V:=i6 16
def Zr:V:=sn 39 2 1
def Zs:V:=i6 14
def Zt:V:=sn 16 2 2
def Zu:V:=sn 40 2 1
def Zv:V:=sn 41 2 1
def Zw:V:=sn 15 2 2
def Zx:V:=sn 19 2 2
def Zy:V:=sn 12 2 1
def Zz:V:=sn 21 2 2
def Z10:V:=sn 18 2 2
def Z11:V:=i6 17
def Z12:V:=sn 42 2 1
def Z13:V:=sn 13 2 1
def Z14:V:=sn 49 2 2
def Z15:V:=sn 13 2 2
def Z16:V:=sn 20 2 2
def Z17:V:=sn 43 2 1
def Z18:V:=sn 23 2 1
def Z19:V:=sn 26 2 1
def Z1a:V:=sn 28 2 1
def Z1b:V:=sn 48 2 2
def Z1c:V:=sn 14 2 2
def Z1d:V:=sn 22 2 1
def Z1e:V:=i6 19
def Z1f:V:=sn 25 2 1
def Z1g:V:=sn 27 2 1
def Z1h:V:=sn 29 2 1
def Z1i:V:=sn 46 2 2
def Z1j:V:=sn 47 2 2
def Z1k:V:=sn 50 2 2
def Z1l:V:=i6 11
def Z1m:V:=i6 27
def Z1n:V:=i6 23
def Z1o:V:=sn 56 2 1
def Z1p:V:=sn 58 2 1
def Z1q:V:=i6 24
def Z1r:V:=i6 25
def Z1s:V:=i6 26
def Z1t:V:=i6 28
def Z1u:V:=sn 61 2 1
def Z1v:V:=sn 62 2 1
def Z1w:V:=i6 15
def Z1x:V:=pt 6
def Z1y:V:=sn 24 2 1
def Z1z:V:=sn 6 3 17
def Z20:V:=sn 12 2 2
def Z21:V:=sn 14 2 1
def Z22:V:=sn 10 1 1
def Z23:V:=sn 57 2 1
def Z24:V:=sn 59 2 1
def Z25:V:=sn 32 2 2
def Z26:V:=sn 65 2 1
def Z27:V:=sn 69 2 1
def Z28:V:=sn 71 2 1
def Z29:V:=sn 51 2 2
def Z2a:V:=i6 100
def Z2b:V:=i6 29
def Z2c:V:=sn 63 2 1
def Z2d:V:=sn 66 2 1
def Z2e:V:=sn 67 2 1
def Z2f:V:=sn 68 2 1
def Z2g:V:=sn 44 2 1
def Z2h:V:=sn 34 2 2
def Z2i:V:=sn 36 2 2
def Z2j:V:=sn 64 2 1
def Z2k:V:=sn 70 2 1
def Z2l:V:=sn 72 2 1
def Z2m:V:=i6 18
def Z2n:V:=sn 45 2 1
def Z2o:V := .agg [z21,.aj]
def Z2p:V:=i6 22
def Z2q:V:=sn 21 2 1
def Z2r:V:=sn 60 2 1
def Z2s:V:=sn 73 2 1
def Z2t:V:=sn 19 2 1
def Z2u:V:=sn 15 2 1
def Z2v:V:=sn 15 1 1
def Z2w:V:=sn 54 2 1
def Z2x:V:=sn 13 1 1
def Z2y:V:=sn 55 2 1
def Z2z:V:=sn 8 2 6
def Z30:V:=sn 53 2 1
def Z31:V:=sn 74 2 1
def Z32:V:=i6 20
def Z33:V:=sc 7 3 0 1 1
def Z34:V:=sn 11 1 1
def Z35:V:=sn 12 1 1
def Z36:V:=sn 14 1 1
def Z37:V:=sn 19 1 2
def Z38:V:=i6 21
def Z39:V:=sn 17 2 1
def Z3a:V:=sn 31 2 2
def Z3b:V:=sn 33 2 2
def Z3c:V:=sn 35 2 2
def Z3d:V:=sn 9 3 6
def Z3e:V:=sn 30 2 1
def Z3f:V:=sn 52 2 1
def Z3g:V:=sn 7 3 1
def Z3h:V:=sn 11 2 2
def Z3i:V:=sn 18 2 1
def Z3j:V:=sn 20 2 1
def Z3k:V:=sn 44 2 2
def Z3l:V:=sn 45 2 2
def Z3m:V:=sn 46 2 1
def Z3n:V:=sn 47 2 1
def Z3o:V:=sn 51 2 1
def Z3p:V:=sn 11 1 6
def Z3q:V:=sn 12 1 6
def Z3r:V:=sn 13 5 2
def Z3s:V:=sn 14 5 1
def Z3t:V:=sn 16 1 2
def Z3u:V:=sn 17 1 2
def Z3v:V:=sn 22 3 1
def Z3w:V:=sn 26 3 1
def Z3x:V:=sn 23 2 2
def Z3y:V:=sn 8 1 1
def Z3z:V:=sn 16 1 1
def Z40:V:=sn 18 1 1
def Z41:V:=sn 42 2 2
def Z42:V:=sn 43 2 2
def Z43:V:=sn 50 2 1
def Z44:V:=sn 30 3 1
def Z45:V:=sn 12 3 1
def Z46:V:=sn 14 3 1
def Z47:V:=sn 16 3 1
def Z48:V:=sn 18 3 1
def Z49:V:=sn 20 3 1
def Z4a:V:=sn 24 3 1
def Z4b:V:=sn 28 3 1
def Z4c:V:=sn 30 3 2
def Z4d:V:=sn 31 3 1
def Z4e:V:=sn 33 3 1
def Z4f:V:=sn 35 3 2
def Z4g:V:=sn 37 3 1
def Z4h:V:=sn 17 1 1
def Z4i:V:=sn 52 2 2
def Z4j:V:=sn 53 2 2
def Z4k:V:=sn 48 2 1
def Z4l:V:=sn 76 2 1
def Z4m:V:=sn 20 1 2
def Z4n:V:=sn 24 2 2
def Z4o:V:=sn 9 1 1
def Z4p:V:=sn 20 1 1
def Z4q:V:=sn 37 2 1
def Z4r:V:=sn 78 2 1
def Z4s:V:=sn 15 1 2
def Z4t:V:=sn 83 2 1
def Z4u:V := .agg [z10,.aj]
def Z4v:V:=sn 79 2 1
def Z4w:V:=sn 22 2 2
def Z4x:V:=sn 6 2 30
def Z4y:V:=sn 7 3 20
def Z4z:V:=sn 16 2 1
def Z50:V:=sn 49 2 1
def Z51:V:=sn 75 2 1
def Z52:V:=sn 77 2 1
def Z53:V:=sn 55 2 2
def Z54:V:=sn 34 3 1
def Z55:V:=sn 96 2 1
def Z56:V:=sn 94 2 1
def Z57:V := .agg [z15,.aj]
def Z58:V := .agg [z16,.aj]
def Z59:V := .agg [z19,.aj]
def Z5a:V := .agg [z14,.aj]
def Z5b:V:=sn 97 2 1
def Z5c:V:=sn 80 2 1
def Z5d:V:=sn 81 2 1
def Z5e:V:=sn 82 2 1
def Z5f:V:=sn 84 2 1
def Z5g:V:=sn 85 2 1
def Z5h:V:=sn 18 1 2
def Z5i:V:=sn 19 1 1
def Z5j:V:=sn 25 2 2
def Z5k:V:=sn 26 2 2
def Z5l:V:=sn 27 2 2
def Z5m:V:=sn 28 2 2
def Z5n:V:=sn 29 2 2
def Z5o:V:=sn 30 2 2
def Z5p:V:=sn 39 1 2
def Z5q:V:=sn 41 1 1
def Z5r:V:=sn 42 1 1
def Z5s:V:=sn 43 1 1
def Z5t:V:=sn 44 1 1
def Z5u:V:=sn 45 1 1
def Z5v:V:=sn 46 1 1
def Z5w:V:=sn 47 1 1
def Z5x:V:=sn 48 1 1
def Z5y:V:=sn 49 1 1
def Z5z:V:=sn 50 1 1
def Z60:V:=sn 51 1 1
def Z61:V:=sn 52 1 1
def Z62:V:=sn 53 1 1
def Z63:V:=sn 54 1 1
def Z64:V:=sn 32 2 1
def Z65:V:=sn 6 3 20
def Z66:V:=sn 10 2 2
def Z67:V:=sn 11 3 1
def Z68:V:=sn 13 3 1
def Z69:V:=sn 15 3 1
def Z6a:V:=sn 17 3 1
def Z6b:V:=sn 19 3 1
def Z6c:V:=sn 21 3 1
def Z6d:V:=sn 23 3 1
def Z6e:V:=sn 25 3 1
def Z6f:V:=sn 27 3 1
def Z6g:V:=sn 29 3 2
def Z6h:V:=sn 32 3 1
def Z6i:V:=sn 34 3 2
def Z6j:V:=sn 36 3 1
def Z6k:V:=sn 60 2 2
def Z6l:V:=sn 86 2 1
def Z6m:V:=sn 87 2 1
def Z6n:V:=sn 88 2 1
def Z6o:V:=sn 89 2 1
def Z6p:V:=sn 90 2 1
def Z6q:V:=sn 91 2 1
def Z6r:V:=sn 92 2 1
def Z6s:V:=sn 93 2 1
def Z6t:V:=sn 95 2 1
def Z6u:V:=sn 9 1 2
def Z6v:V:=sn 21 1 1
def Z6w:V:=sn 37 2 2
def Z6x:V := .agg [z6,.aj]
def Z6y:V := .agg [z4,.aj]
def Z6z:V := .agg [z7,.aj]
def Z70:V := .agg [z8,.aj]
def Z71:V:=sc 6 2 0 2 2
def Z72:V:=sn 98 2 1
def Z73:V:=sc 18 1 0 1 1
def Z74:V := .agg [z26,.aj]
def Z75:V:=sc 6 2 0 1 1
def Z76:V := .agg [z3,Z9]
def Z77:V := .agg [z0,Z4]
def Z78:V := .agg [z1,Z9]
def Z79:V := .agg [z5,Z4]
def Z7a:V := .agg [z1,Zd]
def Z7b:V := .agg [z3,Zd]
def Z7c:V := .agg [z0,Zc]
def Z7d:V := .agg [z1,Zh]
def Z7e:V := .agg [z5,Ze]
def Z7f:V := .agg [z5,Zc]
def Z7g:V := .agg [z3,Zh]
def Z7h:V := .agg [z2,Z4]
def Z7i:V := .agg [z13,Z4]
def Z7j:V := .agg [z0,Ze]
def Z7k:V := .agg [z17,Z4]
def Z7l:V := .agg [z17,Ze]
def Z7m:V := .agg [z18,Z9]
def Z7n:V := .agg [z12,Z4]
def Z7o:V := .agg [z2,Zc]
def Z7p:V := .agg [z9,Z4]
def Z7q:V := .agg [z11,Z4]
def Z7r:V := .agg [z13,Zc]
def Z7s:V := .agg [z18,Zh]
def Z7t:V := .agg [z20,Zh]
def Z7u:V := .agg [Z4x,Z4y]
def Z7v:V := .agg [z18,Zd]
def Z7w:V := .agg [z1,Z9,Z3g]
def Z7x:V := .agg [Z65,Zd,Z2z,Z3d,Z22,Z3p,Z3q,Z3r,Z3s,Zf,bt]
def Z7y:V := .agg [Z1z,Zd,Z2z,Z3d,Z22,Z3p,Z3q,Z3r,Z3s,Zb,bt]
def Z7z:V := .agg [z17,Zc]
def Z80:V := .agg [z12,Zc]
def Z81:V := .agg [z20,Z9]
def Z82:V := .agg [z1,Zz,Z54]
def Z83:V := .agg [z9,Zc]
def Z84:V := .agg [z11,Zc]
def Z85:V := .agg [z20,Zd]
def Z86:V := .agg [z5,Z4,Z3g]
def Z87:V := .agg [z13,Z13,.aj]
def Y0:FO:=bk 2 [z7,.aj]
def Y1:FO:=bk 2 [z8,.aj]
def Y2:FO:=bk 2 [z10,.aj]
def Y3:FO:=bk 2 [z15,.aj]
def Y4:FO:=bk 2 [z16,.aj]
def Y5:FO:=bk 2 [z19,.aj]
def Y6:FO:=bk 4 [z4,.aj,z14,.aj]
def Y7:FO:=bk 2 [z22,.aj]
def Y8:FO:=bk 4 [z6,.aj,z14,.aj]
def Y9:FO:=bk 2 [z6,.aj]
def Ya:FO:=bk 2 [z4,.aj]
def Yb:FO:=bk 2 [z2,Z3]
def Yc:FO:=bk 2 [z2,Z7]
def Yd:FO:=bk 4 [z6,.aj,z9,Z3]
def Ye:FO:=bk 4 [z4,.aj,z23,.aj]
def Yf:FO:=bk 4 [z4,.aj,z10,.aj]
def Yg:FO:=bk 1 [Zi]
def Yh:FO:=bk 1 [Zj]
def Yi:FO:=bk 4 [z4,.aj,z11,Z3]
def Yj:FO:=bk 4 [z4,.aj,z26,.aj]
def Yk:FO:=bk 2 [z12,Z3]
def Yl:FO:=bk 1 [Z5]
def Ym:FO:=bk 4 [z6,.aj,z4,.aj]
def Yn:FO:=bk 4 [z4,.aj,z11,Z7]
def Yo:FO:=bk 2 [z12,Z7]
def Yp:FO:=bk 4 [z6,.aj,z9,Z7]
def Yq:FO:=bk 1 [Zs]
def Yr:FO:=bk 1 [Zq]
def Ys:FO:=bk 1 [Z11]
def Yt:FO:=bk 1 [Zk]
def Yu:FO:=bk 30 [bf,bf,bf,bf,bf,bf,bf,bf,bf,bf,bf,bf,bf,bf,bf,bf,bf,bf,bf,bf,bf,bf,bf,bf,bf,bf,bf,bf,bf,bf]
def Yv:FO:=bk 2 [z2,Z2j]
def Yw:FO:=bk 2 [z2,Z26]
def Yx:FO:=bk 1 [Z2]
def Yy:FO:=bk 6 [Zq,Zk,Zn,Z0,Z6,Zb]
def Yz:FO:=bk 6 [Zb,Z6,Z6,Z6,Zb,Zb]
def Y10:FO:=bk 10 [Z1,Z0,z25,.aj,Z2m,Z1,Z2a,z25,.aj,Z2]
def Y11:FO:=bk 5 [Z1,Z0,z23,.aj,Z1e]
def Y12:FO:=bk 2 [z2,Z27]
def Y13:FO:=bk 3 [bf,z0,Z1o]
def Y14:FO:=bk 2 [z2,Z2c]
def Y15:FO:=bk 2 [Z5,Zi]
def Y16:FO:=bk 2 [Z8,Zj]
def Y17:FO:=bk 2 [Zs,Z1w]
def Y18:FO:=bk 2 [Zf,Z11]
def Y19:FO:=bk 2 [Zk,Zn]
def Y1a:FO:=bk 3 [bf,z0,Z23]
def Y1b:FO:=bk 51 [z13,Z3,.aj,z13,Z7,.aj,z17,Zg,.aj,z1,Z3h,Z45,z1,Z15,Z46,z1,Zw,Z47,z1,Zm,Z48,z1,Zx,Z49,z1,Zz,Z3v,z5,Z18,Z4a,z5,Z1f,Z3w,z5,Z1g,Z4b,z5,Z1h,Z4c,z21,.aj,Z4d,z18,Z25,Z4e,z18,Z2h,Z4f,z20,Z2i,Z4g]
def Y1c:FO:=bk 1 [Z1]
def Y1d:FO:=bk 3 [bf,z0,Z3n]
def Y1e:FO:=bk 2 [z2,Z1v]
def Y1f:FO:=bk 2 [Zn,Z1e]
def Y1g:FO:=bk 2 [Z1l,Z32]
def Y1h:FO:=bk 4 [z6,.aj,z9,Z2e]
def Y1i:FO:=bk 2 [z2,Z2f]
def Y1j:FO:=bk 12 [z19,.aj,z12,Z2q,z12,Z1d,z2,Z18,z2,Z1y,z2,Z1f]
def Y1k:FO:=bk 18 [Z0,z14,.aj,Z0,z9,Z19,Z0,z9,Z1g,Z1,z14,.aj,Z1,z11,Z1a,Z1,z11,Z1h]
def Y1l:FO:=bk 6 [Zj,Zf,Zo,Z0,Z8,Z6]
def Y1m:FO:=bk 6 [Z6,Z8,Z8,Z8,Z6,Z6]
def Y1n:FO:=bk 10 [Z1,Z0,z25,.aj,Z1w,Z1,Z2a,z25,.aj,Z1]
def Y1o:FO:=bk 5 [Z1,Z0,z23,.aj,Zq]
def Y1p:FO:=bk 2 [Z2,Zk]
def Y1q:FO:=bk 2 [Z5,Zn]
def Y1r:FO:=bk 2 [Z1l,Zi]
def Y1s:FO:=bk 2 [Zb,Zs]
def Y1t:FO:=bk 2 [Zf,Zo]
def Y1u:FO:=bk 3 [bf,z0,Z3m]
def Y1v:FO:=bk 3 [bf,z0,Z30]
def Y1w:FO:=bk 2 [z2,Zg]
def Y1x:FO:=bk 2 [z2,Z1p]
def Y1y:FO:=bk 4 [z4,.aj,z11,Z28]
def Y1z:FO:=bk 2 [z2,Z1u]
def Y20:FO:=bk 3 [bf,z0,Z12]
def Y21:FO:=bk 2 [z2,Z3f]
def Y22:FO:=bk 2 [z2,Z2d]
def Y23:FO:=bk 2 [z2,Z2l]
def Y24:FO:=bk 2 [z2,Z2s]
def Y25:FO:=bk 3 [bf,z0,Z1u]
def Y26:FO:=bk 3 [bf,z0,Z24]
def Y27:FO:=bk 3 [bf,z0,Z7]
def Y28:FO:=bk 51 [z13,Zc,.aj,z13,Z3,.aj,z17,Z7,.aj,z1,Z66,Z67,z1,Z20,Z68,z1,Z1c,Z69,z1,Zt,Z6a,z1,Z10,Z6b,z1,Z16,Z6c,z5,Z1d,Z6d,z5,Z1y,Z6e,z5,Z19,Z6f,z5,Z1a,Z6g,z21,.aj,Z44,z18,Z3a,Z6h,z18,Z3b,Z6i,z20,Z3c,Z6j]
def Y29:FO:=bk 2 [z2,Z4q]
def Y2a:FO:=bk 3 [bf,z0,Zr]
def Y2b:FO:=bk 3 [bf,z0,Zv]
def Y2c:FO:=bk 3 [bf,z0,Z2g]
def Y2d:FO:=bk 3 [bf,z0,Z3o]
def Y2e:FO:=bk 6 [bf,z0,Z2w,bf,z3,Z53]
def Y2f:FO:=bk 6 [bf,z0,Z1p,bt,z0,Z24]
def Y2g:FO:=bk 3 [bf,z3,Z6k]
def Y2h:FO:=bk 2 [z12,Z2k]
def Y2i:FO:=bk 2 [z2,Z19]
def Y2j:FO:=bk 3 [bf,z0,Z50]
def Y2k:FO:=bk 2 [z2,Z2e]
def Y2l:FO:=bk 2 [z2,Z6n]
def Y2m:FO:=bk 2 [z2,Z6o]
def Y2n:FO:=bk 2 [z2,Z6p]
def Y2o:FO:=bk 2 [z2,Z6r]
def Y2p:FO:=bk 2 [z2,Z2y]
def Y2q:FO:=bk 2 [z12,Z1o]
def Y2r:FO:=bk 2 [z12,Z23]
def Y2s:FO:=bk 2 [z2,Z24]
def Y2t:FO:=bk 2 [z12,Z1u]
def Y2u:FO:=bk 4 [z6,.aj,z9,Z2d]
def Y2v:FO:=bk 4 [z4,.aj,z11,Z2f]
def Y2w:FO:=bk 4 [z6,.aj,z9,Z2k]
def Y2x:FO:=bk 4 [z4,.aj,z11,Z2l]
def Y2y:FO:=bk 4 [z6,.aj,z9,Z28]
def Y2z:FO:=bk 4 [z4,.aj,z11,Z1v]
def Y30:FO:=bk 2 [z2,Z2k]
def Y31:FO:=bk 4 [z6,.aj,z9,Zl]
def Y32:FO:=bk 4 [z6,.aj,z9,Zu]
def Y33:FO:=bk 4 [z4,.aj,z11,Z17]
def Y34:FO:=bk 4 [z4,.aj,z11,Z2n]
def Y35:FO:=bk 2 [z12,Z4k]
def Y36:FO:=bk 3 [bf,z3,Z14]
def Y37:FO:=bk 2 [z2,Z43]
def Y38:FO:=bk 4 [z6,.aj,z9,Z31]
def Y39:FO:=bk 3 [bf,z0,Z64]
def Y3a:FO:=bk 2 [z2,Z3e]
def Y3b:FO:=bk 3 [bf,z0,Z1a]
def Y3c:FO:=bk 2 [z2,Zc]
def Y3d:FO:=bk 3 [bf,z0,Z43]
def Y3e:FO:=bk 3 [bf,z0,Z2w]
def Y3f:FO:=bk 2 [z2,Z4l]
def Y3g:FO:=bk 2 [z2,Z4r]
def Y3h:FO:=bk 2 [z2,Z4v]
def Y3i:FO:=bk 3 [bf,z0,Z2j]
def Y3j:FO:=bk 4 [z6,.aj,z9,Z2y]
def Y3k:FO:=bk 4 [z4,.aj,z11,Z2r]
def Y3l:FO:=bk 3 [bf,z0,Z2f]
def Y3m:FO:=bk 2 [z2,Z6m]
def Y3n:FO:=bk 2 [z2,Z6t]
def Y3o:FO:=bk 30 [bf,bf,bf,bf,bf,bf,bf,bf,bf,bf,bf,bf,bt,bf,bf,bf,bf,bf,bf,bf,bf,bf,bf,bf,bf,bf,bf,bf,bf,bf]
def Y3p:FO:=bk 30 [bf,bf,bf,bf,bf,bf,bf,bf,bf,bf,bf,bf,bf,bt,bf,bf,bf,bf,bf,bf,bf,bf,bf,bf,bf,bf,bf,bf,bf,bf]
def Y3q:FO:=bk 60 [z21,.aj,z17,Z7,z5,Zg,z5,Zp,z5,Zy,z5,Z13,z5,Z21,z13,Z2u,z13,Z4z,z0,Z39,z0,Z3i,z0,Z2t,z0,Z3j,z0,Z2q,z0,Z1d,z3,Z3x,z3,Z4n,z3,Z5j,z3,Z5k,z3,Z5l,z3,Z5m,z18,Z5n,z18,Z5o,z1,Z3a,z1,Z25,z1,Z3b,z1,Z2h,z1,Z3c,z1,Z2i,z20,Z6w]
def Y3r:FO:=bk 2 [z2,Z1o]
def Y3s:FO:=bk 2 [z2,Z2r]
def Y3t:FO:=bk 2 [z12,Z1v]
def Y3u:FO:=bk 4 [z4,.aj,z11,Z2s]
def Y3v:FO:=bk 4 [z4,.aj,z11,Z1u]
def Y3w:FO:=bk 2 [z12,Z2c]
def Y3x:FO:=bk 60 [Z0,Z0,.aj,Z1,Z0,.aj,Z2,Z0,.aj,Z2,Z1,.aj,Z2,Z2,.aj,Z2,Z5,.aj,Z2,Z8,.aj,Z2,Z6,.aj,Z5,Z0,.aj,Z5,Z1,.aj,Z5,Z2,.aj,Z5,Z5,.aj,Z5,Z8,.aj,Z5,Z6,.aj,Z8,Z0,Z4s,Z8,Z0,Z3t,Z6,Z0,Z3u,Zb,Z0,Z73,Z8,Z0,Z37,Z6,Z0,Z4m]
def Y3y:FO:=bk 2 [z2,Z2u]
def Y3z:FO:=bk 4 [z6,.aj,z9,Z30]
def Y40:FO:=bk 3 [bf,z0,Z2d]
def Y41:FO:=bk 4 [z6,.aj,z9,Z4t]
def Y42:FO:=bk 2 [z2,Z56]
def Y43:FO:=bk 3 [bf,z0,Z17]
def Y44:FO:=bk 3 [bf,z0,Z2n]
def Y45:FO:=bk 3 [bf,z0,Z3f]
def Y46:FO:=bk 2 [z12,Z52]
def Y47:FO:=bk 2 [z2,Z5c]
def Y48:FO:=bk 2 [z2,Z5d]
def Y49:FO:=bk 3 [bf,z0,Z1v]
def Y4a:FO:=bk 3 [bf,z0,Z28]
def Y4b:FO:=bk 2 [z2,Z6s]
def Y4c:FO:=bk 2 [z2,Z55]
def Y4d:FO:=bk 3 [bf,z0,Z31]
def Y4e:FO:=bk 2 [z12,Z5c]
def Y4f:FO:=bk 2 [z2,Z5e]
def Y4g:FO:=bk 4 [z6,.aj,z9,Z5f]
def Y4h:FO:=bk 4 [z4,.aj,z11,Z6l]
def Y4i:FO:=bk 2 [z2,Z6q]
def Y4j:FO:=bk 3 [bf,z0,Z3]
def Y4k:FO:=bk 60 [z21,.aj,z17,Z3,z5,Z7,z5,Zg,z5,Zp,z5,Zy,z5,Z13,z13,Z21,z13,Z2u,z0,Z4z,z0,Z39,z0,Z3i,z0,Z2t,z0,Z3j,z0,Z2q,z3,Z4w,z3,Z3x,z3,Z4n,z3,Z5j,z3,Z5k,z3,Z5l,z18,Z5m,z18,Z5n,z1,Z5o,z1,Z3a,z1,Z25,z1,Z3b,z1,Z2h,z1,Z3c,z20,Z2i]
def Y4l:FO:=bk 4 [z6,.aj,z9,Z26]
def Y4m:FO:=bk 4 [z4,.aj,z11,Z2e]
def Y4n:FO:=bk 4 [z6,.aj,z9,Z27]
def Y4o:FO:=bk 4 [z4,.aj,z11,Z27]
def Y4p:FO:=bk 4 [z6,.aj,z9,Z24]
def Y4q:FO:=bk 4 [z6,.aj,z9,Z2r]
def Y4r:FO:=bk 4 [z6,.aj,z9,Z2l]
def Y4s:FO:=bk 60 [Z0,Z0,.aj,Z1,Z0,.aj,Z2,Z0,.aj,Z2,Z1,.aj,Z2,Z2,.aj,Z2,Z5,.aj,Z2,Z8,.aj,Z2,Z6,.aj,Z5,Z0,.aj,Z5,Z1,.aj,Z5,Z2,.aj,Z5,Z5,.aj,Z5,Z8,.aj,Z5,Z6,.aj,Z8,Z0,Z4s,Z8,Z0,Z3t,Z6,Z0,Z3u,Zb,Z0,Z40,Z8,Z0,Z37,Z6,Z0,Z4m]
def Y4t:FO:=bk 51 [Z0,Z0,.aj,Z2,Z0,.aj,Z2,Z1,.aj,Z2,Z2,.aj,Z2,Z5,.aj,Z2,Z8,.aj,Z2,Z6,.aj,Z5,Z1,.aj,Z5,Z2,.aj,Z5,Z8,.aj,Z5,Z6,.aj,Z8,Z0,Z4s,Z8,Z0,Z3t,Z6,Z0,Z3u,Zb,Z0,Z40,Z8,Z0,Z37,Z6,Z0,Z4m]
def Y4u:FO:=bk 4 [z6,.aj,z9,Z2t]
def Y4v:FO:=bk 4 [z4,.aj,z11,Z2t]
def Y4w:FO:=bk 4 [z6,.aj,z9,Z3e]
def Y4x:FO:=bk 12 [z19,.aj,z12,Z18,z12,Z1y,z2,Z1f,z2,Z19,z2,Z1g]
def Y4y:FO:=bk 4 [z4,.aj,z11,Zc]
def Y4z:FO:=bk 8 [z17,Zl,z13,Zr,z13,Zu,z0,Zl]
def Y50:FO:=bk 4 [z6,.aj,z9,Z3m]
def Y51:FO:=bk 4 [z6,.aj,z9,Z4k]
def Y52:FO:=bk 24 [z17,Zl,z5,Zr,z13,Zu,z13,Zv,z0,Zl,z0,Zr,z3,Z41,z3,Z42,z3,Z3k,z1,Z41,z1,Z42,z1,Z3k]
def Y53:FO:=bk 4 [z6,.aj,z9,Z5g]
def Y54:FO:=bk 4 [z4,.aj,z11,Z1p]
def Y55:FO:=bk 6 [bf,z0,Z2s,bt,z0,Z31]
def Y56:FO:=bk 4 [z6,.aj,z9,Z5d]
def Y57:FO:=bk 4 [z6,.aj,z9,Z5e]
def Y58:FO:=bk 4 [z4,.aj,z11,Z4t]
def Y59:FO:=bk 4 [z4,.aj,z11,Z5f]
def Y5a:FO:=bk 4 [z6,.aj,z9,Z6q]
def Y5b:FO:=bk 4 [z6,.aj,z9,Z23]
def Y5c:FO:=bk 6 [bf,z0,Z51,bt,z0,Z4l]
def Y5d:FO:=bk 4 [z4,.aj,z11,Z5g]
def Y5e:FO:=bk 4 [z6,.aj,z9,Z6s]
def Y5f:FO:=bk 4 [z4,.aj,z11,Z5b]
def Y5g:FO:=bk 58 [z21,.aj,z17,Zl,z5,Zr,z5,Zu,z5,Zv,z5,Z12,z5,Z17,z13,Z2g,z13,Z2n,z0,Zr,z0,Zu,z0,Zv,z0,Zl,z0,Z12,z0,Z17,z3,Z1i,z3,Z1j,z3,Z1b,z3,Z14,z3,Z1k,z3,Z29,z18,Z4i,z1,Z1i,z1,Z1j,z1,Z1b,z1,Z14,z1,Z1k,z1,Z29,z20,Z4j]
end Go.Proofs.YtpmapognbdiahaaGreatDoor
