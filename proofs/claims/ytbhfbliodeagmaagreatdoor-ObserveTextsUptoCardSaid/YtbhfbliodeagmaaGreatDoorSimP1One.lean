/- Sim: the functions' table with parser.read, strings.Cut and observe.Text in it; what strings.TrimSuffix and observe.line do at two texts. -/
import Derived.Test.YtbhfbliodeagmaaGreatDoorSimFtOne
import Derived.Test.YtbhfbliodeagmaaGreatDoorSimPtOne
import Derived.Test.YtbhfbliodeagmaaGreatDoorDfrOne
set_option linter.all false
namespace Go.Sim
open Go Go.RowKit
open Go.Abs (TE TK SK TOK)
noncomputable def ovp (T:Nat→TE) (ng k:Nat) (fe:FE) (FF:Nat→Option FC):Nat→Option FC:=fun f=>match Nat.beq f k with
 | true=>some (Nr T ng fe)
 | false=>FF f
theorem Xt {P:Program} {T:Nat→TE} {w0:World} {ng k:Nat} {fe:FE} {FF:Nat→Option FC} (h:dK P T w0 ng FF) (he:dZ P T w0 ng k fe):dK P T w0 ng (ovp T ng k fe FF):=fun f fc hfc=>by
 have hfc:(match Nat.beq f k with | true=>some (Nr T ng fe) | false=>FF f)=some fc:=hfc
 split at hfc
 ·rename_i hk
  cases hfc
  rw [beq_iff.1 hk]
  exact ⟨_,rfl,he⟩
 ·exact h f fc hfc
end Go.Sim
namespace Go.Proofs.YtbhfbliodeagmaaGreatDoor
open Go Go.Sim Go.RowKit
noncomputable def anj:Nat→Option FC:=ovp T 6 163 { SX with pre:=ahJ T FF 6 1000 1000 234 SX } FF
noncomputable def ani:Nat→Option FC:=ovp T 6 166 { SS with pre:=ahJ T FF 6 1000 1000 238 SS } anj
theorem anT:DOK Tryz.prog 234:=⟨enters_of Tryz.func234 (by kernel_rfl) rfl,Tryz.idle1⟩
theorem anS:DOK Tryz.prog 238:=⟨enters_of Tryz.func238 (by kernel_rfl) rfl,Tryz.akK⟩
theorem anR (w0:World):dK Tryz.prog T w0 6 anj:=Xt (hF w0) (fU (QC hT (by decide) (hF w0) (amg w0 6) anT) fun _ _ _ _=>rfl)
theorem anQ (w0:World):dK Tryz.prog T w0 6 ani:=Xt (anR w0) (fU (QC hT (by decide) (hF w0) (amf w0 6) anS) fun _ _ _ _=>rfl)
noncomputable def FF0:Nat→Option FC:=ovl T 6 102 ZM ahk ani
theorem hF0 (w0:WM):dK Tryz.prog T w0 6 FF0:=dA (anQ w0) (VI w0) (amh w0 6)
noncomputable def FF1:Nat→Option FC:=ovl T 6 10 aiR Wi FF0
theorem hF1 (w0:WM):dK Tryz.prog T w0 6 FF1:=dA (hF0 w0) (Oh w0) (b10 w0 6)
def wordsO:Nat×FO:=(2,.blk true 3 [(.str 2 26982),(.str 3 6385252),(.str 3 7237492)])
noncomputable def trim1:Fact:=⟨[(.str 6 131260264757770),(.str 1 10)],[],6,(.str 5 512735409210),[],[],[],6⟩
noncomputable def trim2:Fact:=⟨[(.str 7 33602627777994762),(.str 1 10)],[],6,(.str 6 131260264757792),[],[],[],6⟩
noncomputable def line1:Fact:=⟨[(.str 5 512735409210)],[],6,(.tup [(.agg [(.str 0 0),.aj,.aj]),(.bool false)]),[],[],[],7⟩
noncomputable def line2:Fact:=⟨[(.str 6 131260264757792)],[wordsO],6,(.tup [(.agg [(.str 4 2002872692),.aj,.aj]),(.bool true)]),[],[2],[],53⟩
theorem abL (w0:WM):aZ Tryz.prog T w0 6 56 trim1:=sN hT (hF1 w0) (b56 w0 6) (N:=1000) (n:=1000) (by kernel_rfl)
theorem abJ (w0:WM):aZ Tryz.prog T w0 6 56 trim2:=sN hT (hF1 w0) (b56 w0 6) (N:=1000) (n:=1000) (by kernel_rfl)
theorem acg (w0:WM):aZ Tryz.prog T w0 6 55 line1:=sN hT (hF1 w0) (b55 w0 6) (N:=1000) (n:=1000) (by kernel_rfl)
theorem ace (w0:WM):aZ Tryz.prog T w0 6 55 line2:=sN hT (hF1 w0) (b55 w0 6) (N:=1000) (n:=1000) (by kernel_rfl)
theorem pI {w0:World} {f:Nat} {F:Fact} (h:aZ Tryz.prog T w0 6 f F) (hro:∀ (i:B) o,i.get (eF F.pre .lf)=some o→o.ro=true) {g:Gh} {hp:B→Option Sim.Obj} {w:World} {vs:List Value} (h1:HR T w0 6 g hp ⟨F.m⟩ w) (h2:Sub (eF F.pre .lf) hp) (h3:RVL g F.m F.args vs) :
  Calls Tryz.prog f vs.toArray w fun e w'=>∃ g' val,e = .returned val∧RV g' F.n F.v val∧Below w.heap.size w w':=by
 obtain ⟨t1,⟨_,hc⟩,_⟩:=h.run
 refine (hc g hp w vs h1 h2 h3).mono ?_
 rintro e w' ⟨g',hp',val,rfl,st,hv⟩
 refine ⟨g',val,rfl,hv,?_⟩
 have a1:=st.hr.os.trans h1.os.symm
 have a2:=st.hr.tape.trans h1.tape.symm
 have a3:=st.hr.output.trans h1.output.symm
 exact ⟨a1,a2,a3,st.sz,fun b hb=>st.un b hb fun id o q1 q2=>by rw [hro id o q1] at q2;cases q2⟩
theorem nD {g:Gh} {n:Nat} {c:V} {v:Value} (h:RV g n c v):RVL g n [c] [v] := .cons h .nil
theorem VU (i:B) (o:Sim.Obj) (h:i.get (eF [wordsO] .lf)=some o):o.ro=true:=by
 rcases qJ _ _ _ _ h with ⟨fo,q1,q2⟩ | q1
 ·simp only [List.mem_singleton,wordsO,Prod.mk.injEq] at q1
  rw [q2,q1.2];rfl
 ·rw [B.bW] at q1;cases q1
theorem Je (i:B) (o:Sim.Obj) (h:i.get (eF [] .lf)=some o):o.ro=true:=by
 have h:i.get .lf=some o:=h
 rw [B.bW] at h;cases h
section
variable {w0:WM} {g:Gh} {hp:B→Option Sim.Obj} {w:World}
theorem abM (h1:HR T w0 6 g hp ⟨6⟩ w):Calls Tryz.prog 56 #[.string ⟨#[119,97,105,116,58,10]⟩,.string ⟨#[10]⟩] w fun e w'=>e = .returned (.string ⟨#[119,97,105,116,58]⟩)∧Below w.heap.size w w':=by
 refine (pI (abL w0) Je (w:=w) (vs:=[.string ⟨#[119,97,105,116,58,10]⟩,.string ⟨#[10]⟩]) h1 (fun i o h=>by have h:i.get .lf=some o:=h;rw [B.bW] at h;cases h) (.cons (lg [119,97,105,116,58,10] rfl (by decide) (by decide)) (nD (lg [10] rfl (by decide) (by decide))))).mono ?_
 rintro e w' ⟨g',val,rfl,hv,hB⟩
 obtain rfl:=nG [119,97,105,116,58] rfl (by decide) hv
 exact ⟨rfl,hB⟩
theorem abK (h1:HR T w0 6 g hp ⟨6⟩ w):Calls Tryz.prog 56 #[.string ⟨#[119,97,105,116,58,32,10]⟩,.string ⟨#[10]⟩] w fun e w'=>e = .returned (.string ⟨#[119,97,105,116,58,32]⟩)∧Below w.heap.size w w':=by
 refine (pI (abJ w0) Je (w:=w) (vs:=[.string ⟨#[119,97,105,116,58,32,10]⟩,.string ⟨#[10]⟩]) h1 (fun i o h=>by have h:i.get .lf=some o:=h;rw [B.bW] at h;cases h) (.cons (lg [119,97,105,116,58,32,10] rfl (by decide) (by decide)) (nD (lg [10] rfl (by decide) (by decide))))).mono ?_
 rintro e w' ⟨g',val,rfl,hv,hB⟩
 obtain rfl:=nG [119,97,105,116,58,32] rfl (by decide) hv
 exact ⟨rfl,hB⟩
theorem Qp {g:Gh} {n:Nat} {s:List UInt8} {l m:Nat} {b:Bool} {x:Value} (hl:s.length=l) (hm:aU s=m) (h:RV g n (.tup [.agg [.str l m,.aj,.aj],.bool b]) x):x = .tuple #[.agg #[.string ⟨s.toArray⟩,.slice none 0 0,.slice none 0 0],.bool b]:=by
 cases h with
 | tup _ vs q1 q2=>
   obtain ⟨u,v,rfl⟩:∃ u v,vs=#[u,v]:=by
    match vs,q1 with
    | ⟨[u,v]⟩,_=>exact ⟨u,v,rfl⟩
   have r0:=q2 0 _ u rfl rfl
   have r1:=q2 1 _ v rfl rfl
   cases r1
   cases r0 with
   | agg _ us p1 p2 p3=>
     obtain ⟨a,b,c,rfl⟩:∃ a b c,us=#[a,b,c]:=by
      match us,p1 with
      | ⟨[a,b,c]⟩,_=>exact ⟨a,b,c,rfl⟩
     have t0:=p2 0 _ a rfl rfl
     have t1:=p2 1 _ b rfl rfl
     have t2:=p2 2 _ c rfl rfl
     cases t1
     cases t2
     rw [nG s hl hm t0]
theorem ach (h1:HR T w0 6 g hp ⟨6⟩ w):Calls Tryz.prog 55 #[.string ⟨#[119,97,105,116,58]⟩] w fun e w'=>e = .returned (.tuple #[.agg #[.string ⟨#[]⟩,.slice none 0 0,.slice none 0 0],.bool false])∧Below w.heap.size w w':=by
 refine (pI (acg w0) Je (w:=w) (vs:=[.string ⟨#[119,97,105,116,58]⟩]) h1 (fun i o h=>by have h:i.get .lf=some o:=h;rw [B.bW] at h;cases h) (nD (lg [119,97,105,116,58] rfl (by decide) (by decide)))).mono ?_
 rintro e w' ⟨g',val,rfl,hv,hB⟩
 obtain rfl:=Qp (s:=[]) rfl rfl hv
 exact ⟨rfl,hB⟩
theorem acf (h1:HR T w0 6 g hp ⟨6⟩ w) (h2:Sub (eF [wordsO] .lf) hp):Calls Tryz.prog 55 #[.string ⟨#[119,97,105,116,58,32]⟩] w fun e w'=>e = .returned (.tuple #[.agg #[.string ⟨#[119,97,105,116]⟩,.slice none 0 0,.slice none 0 0],.bool true])∧Below w.heap.size w w':=by
 refine (pI (ace w0) VU (w:=w) (vs:=[.string ⟨#[119,97,105,116,58,32]⟩]) h1 h2 (nD (lg [119,97,105,116,58,32] rfl (by decide) (by decide)))).mono ?_
 rintro e w' ⟨g',val,rfl,hv,hB⟩
 obtain rfl:=Qp (s:=[119,97,105,116]) rfl (by decide) hv
 exact ⟨rfl,hB⟩
end
end Go.Proofs.YtbhfbliodeagmaaGreatDoor
