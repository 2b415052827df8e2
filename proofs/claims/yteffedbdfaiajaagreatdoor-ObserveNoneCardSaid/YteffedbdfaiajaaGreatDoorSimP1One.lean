/- Sim: the functions' table with parser.read, strings.Cut and observe.Text in it; what strings.TrimSuffix and observe.line do at two texts. -/
import Derived.Test.YteffedbdfaiajaaGreatDoorSimFtOne
import Derived.Test.YteffedbdfaiajaaGreatDoorSimPtOne
import Derived.Test.YteffedbdfaiajaaGreatDoorDfrOne
set_option linter.unusedVariables false
set_option linter.unusedSimpArgs false
set_option linter.all false
namespace Go.Sim
open Go Go.RowKit
open Go.Abs (TE TK SK TOK)
noncomputable def ovp (T:Nat→TE) (ng k:Nat) (fe:FE) (FF:Nat→Option FC):Nat→Option FC:=fun f=>match Nat.beq f k with
 | true=>some (BA T ng fe)
 | false=>FF f
theorem Kq {P:Program} {T:Nat→TE} {w0:World} {ng k:Nat} {fe:FE} {FF:Nat→Option FC} (h:bU P T w0 ng FF) (he:dn P T w0 ng k fe):bU P T w0 ng (ovp T ng k fe FF):=fun f fc hfc=>by
 have hfc:(match Nat.beq f k with | true=>some (BA T ng fe) | false=>FF f)=some fc:=hfc
 split at hfc
 ·rename_i hk
  cases hfc
  rw [beq_iff.1 hk]
  exact ⟨_,rfl,he⟩
 ·exact h f fc hfc
end Go.Sim
namespace Go.Proofs.YteffedbdfaiajaaGreatDoor
open Go Go.Sim Go.RowKit
noncomputable def aec:Nat→Option FC:=ovp T 6 147 { F6 with pre:=Xm T FF 6 1000 1000 215 F6 } FF
noncomputable def aeb:Nat→Option FC:=ovp T 6 150 { F5 with pre:=Xm T FF 6 1000 1000 219 F5 } aec
theorem aeL:DOK Tryz.prog 215:=⟨enters_of Tryz.func215 (by kernel_rfl) rfl,Tryz.idle1⟩
theorem aeK:DOK Tryz.prog 219:=⟨enters_of Tryz.func219 (by kernel_rfl) rfl,Tryz.abr⟩
theorem aeI (w0:World):bU Tryz.prog T w0 6 aec:=Kq (hF w0) (dP (Ei hT (by decide) (hF w0) (ada w0 6) aeL) fun _ _ _ _=>rfl)
theorem aeH (w0:World):bU Tryz.prog T w0 6 aeb:=Kq (aeI w0) (dP (Ei hT (by decide) (hF w0) (ac9 w0 6) aeK) fun _ _ _ _=>rfl)
noncomputable def FF0:Nat→Option FC:=ovl T 6 89 YD WY aeb
theorem hF0 (w0:WM):bU Tryz.prog T w0 6 FF0:=bJ (aeH w0) (I9 w0) (b89 w0 6)
noncomputable def FF1:Nat→Option FC:=ovl T 6 14 YQ Jp FF0
theorem hF1 (w0:WM):bU Tryz.prog T w0 6 FF1:=bJ (hF0 w0) (BZ w0) (b14 w0 6)
def wordsO:Nat×FO:=(2,.blk true 3 [(.str 2 26982),(.str 3 6385252),(.str 3 7237492)])
noncomputable def trim1:Fact:=⟨[(.str 6 131260264757770),(.str 1 10)],[],6,(.str 5 512735409210),[],[],[],6⟩
noncomputable def trim2:Fact:=⟨[(.str 7 33602627777994762),(.str 1 10)],[],6,(.str 6 131260264757792),[],[],[],6⟩
noncomputable def line1:Fact:=⟨[(.str 5 512735409210)],[],6,(.tup [(.agg [(.str 0 0),.aj,.aj]),(.bool false)]),[],[],[],7⟩
noncomputable def line2:Fact:=⟨[(.str 6 131260264757792)],[wordsO],6,(.tup [(.agg [(.str 4 2002872692),.aj,.aj]),(.bool true)]),[],[2],[],53⟩
theorem O6 (w0:WM):aT Tryz.prog T w0 6 48 trim1:=lT hT (hF1 w0) (b48 w0 6) (N:=1000) (n:=1000) (by kernel_rfl)
theorem O4 (w0:WM):aT Tryz.prog T w0 6 48 trim2:=lT hT (hF1 w0) (b48 w0 6) (N:=1000) (n:=1000) (by kernel_rfl)
theorem PO (w0:WM):aT Tryz.prog T w0 6 47 line1:=lT hT (hF1 w0) (b47 w0 6) (N:=1000) (n:=1000) (by kernel_rfl)
theorem PL (w0:WM):aT Tryz.prog T w0 6 47 line2:=lT hT (hF1 w0) (b47 w0 6) (N:=1000) (n:=1000) (by kernel_rfl)
theorem kF {w0:World} {f:Nat} {F:Fact} (h:aT Tryz.prog T w0 6 f F) (hro:∀ (i:B) o,i.get (dA F.pre .lf)=some o→o.ro=true) {g:Gh} {hp:B→Option Sim.Obj} {w:World} {vs:List Value} (h1:HR T w0 6 g hp ⟨F.m⟩ w) (h2:Sub (dA F.pre .lf) hp) (h3:RVL g F.m F.args vs) :
  Calls Tryz.prog f vs.toArray w fun e w'=>∃ g' val,e = .returned val∧RV g' F.n F.v val∧Below w.heap.size w w':=by
 obtain ⟨t1,⟨_,hc⟩,_⟩:=h.run
 refine (hc g hp w vs h1 h2 h3).mono ?_
 rintro e w' ⟨g',hp',val,rfl,st,hv⟩
 refine ⟨g',val,rfl,hv,?_⟩
 have a1:=st.hr.os.trans h1.os.symm
 have a2:=st.hr.tape.trans h1.tape.symm
 have a3:=st.hr.output.trans h1.output.symm
 exact ⟨a1,a2,a3,st.sz,fun b hb=>st.un b hb fun id o q1 q2=>by rw [hro id o q1] at q2;cases q2⟩
theorem jo {g:Gh} {n:Nat} {c:V} {v:Value} (h:RV g n c v):RVL g n [c] [v] := .cons h .nil
theorem Jh (i:B) (o:Sim.Obj) (h:i.get (dA [wordsO] .lf)=some o):o.ro=true:=by
 rcases kW _ _ _ _ h with ⟨fo,q1,q2⟩ | q1
 ·simp only [List.mem_singleton,wordsO,Prod.mk.injEq] at q1
  rw [q2,q1.2];rfl
 ·rw [B.bC] at q1;cases q1
theorem yD (i:B) (o:Sim.Obj) (h:i.get (dA [] .lf)=some o):o.ro=true:=by
 have h:i.get .lf=some o:=h
 rw [B.bC] at h;cases h
section
variable {w0:WM} {g:Gh} {hp:B→Option Sim.Obj} {w:World}
theorem O7 (h1:HR T w0 6 g hp ⟨6⟩ w):Calls Tryz.prog 48 #[.string ⟨#[119,97,105,116,58,10]⟩,.string ⟨#[10]⟩] w fun e w'=>e = .returned (.string ⟨#[119,97,105,116,58]⟩)∧Below w.heap.size w w':=by
 refine (kF (O6 w0) yD (w:=w) (vs:=[.string ⟨#[119,97,105,116,58,10]⟩,.string ⟨#[10]⟩]) h1 (fun i o h=>by have h:i.get .lf=some o:=h;rw [B.bC] at h;cases h) (.cons (iJ [119,97,105,116,58,10] rfl (by decide) (by decide)) (jo (iJ [10] rfl (by decide) (by decide))))).mono ?_
 rintro e w' ⟨g',val,rfl,hv,hB⟩
 obtain rfl:=jq [119,97,105,116,58] rfl (by decide) hv
 exact ⟨rfl,hB⟩
theorem O5 (h1:HR T w0 6 g hp ⟨6⟩ w):Calls Tryz.prog 48 #[.string ⟨#[119,97,105,116,58,32,10]⟩,.string ⟨#[10]⟩] w fun e w'=>e = .returned (.string ⟨#[119,97,105,116,58,32]⟩)∧Below w.heap.size w w':=by
 refine (kF (O4 w0) yD (w:=w) (vs:=[.string ⟨#[119,97,105,116,58,32,10]⟩,.string ⟨#[10]⟩]) h1 (fun i o h=>by have h:i.get .lf=some o:=h;rw [B.bC] at h;cases h) (.cons (iJ [119,97,105,116,58,32,10] rfl (by decide) (by decide)) (jo (iJ [10] rfl (by decide) (by decide))))).mono ?_
 rintro e w' ⟨g',val,rfl,hv,hB⟩
 obtain rfl:=jq [119,97,105,116,58,32] rfl (by decide) hv
 exact ⟨rfl,hB⟩
theorem D8 {g:Gh} {n:Nat} {s:List UInt8} {l m:Nat} {b:Bool} {x:Value} (hl:s.length=l) (hm:aO s=m) (h:RV g n (.tup [.agg [.str l m,.aj,.aj],.bool b]) x):x = .tuple #[.agg #[.string ⟨s.toArray⟩,.slice none 0 0,.slice none 0 0],.bool b]:=by
 cases h with
 | tup _ vs q1 q2=>
   obtain ⟨u,v,rfl⟩:∃ u v,vs=#[u,v]:=by
    match vs,q1 with
    | ⟨[u,v]⟩,_=>exact ⟨u,v,rfl⟩
   have r0:=q2 0 _ u rfl rfl
   have r1:=q2 1 _ v rfl rfl
   cases r1
   cases r0 with
   | agg _ us p1 p2 p3=>
     obtain ⟨a,b,c,rfl⟩:∃ a b c,us=#[a,b,c]:=by
      match us,p1 with
      | ⟨[a,b,c]⟩,_=>exact ⟨a,b,c,rfl⟩
     have t0:=p2 0 _ a rfl rfl
     have t1:=p2 1 _ b rfl rfl
     have t2:=p2 2 _ c rfl rfl
     cases t1
     cases t2
     rw [jq s hl hm t0]
theorem PS (h1:HR T w0 6 g hp ⟨6⟩ w):Calls Tryz.prog 47 #[.string ⟨#[119,97,105,116,58]⟩] w fun e w'=>e = .returned (.tuple #[.agg #[.string ⟨#[]⟩,.slice none 0 0,.slice none 0 0],.bool false])∧Below w.heap.size w w':=by
 refine (kF (PO w0) yD (w:=w) (vs:=[.string ⟨#[119,97,105,116,58]⟩]) h1 (fun i o h=>by have h:i.get .lf=some o:=h;rw [B.bC] at h;cases h) (jo (iJ [119,97,105,116,58] rfl (by decide) (by decide)))).mono ?_
 rintro e w' ⟨g',val,rfl,hv,hB⟩
 obtain rfl:=D8 (s:=[]) rfl rfl hv
 exact ⟨rfl,hB⟩
theorem PN (h1:HR T w0 6 g hp ⟨6⟩ w) (h2:Sub (dA [wordsO] .lf) hp):Calls Tryz.prog 47 #[.string ⟨#[119,97,105,116,58,32]⟩] w fun e w'=>e = .returned (.tuple #[.agg #[.string ⟨#[119,97,105,116]⟩,.slice none 0 0,.slice none 0 0],.bool true])∧Below w.heap.size w w':=by
 refine (kF (PL w0) Jh (w:=w) (vs:=[.string ⟨#[119,97,105,116,58,32]⟩]) h1 h2 (jo (iJ [119,97,105,116,58,32] rfl (by decide) (by decide)))).mono ?_
 rintro e w' ⟨g',val,rfl,hv,hB⟩
 obtain rfl:=D8 (s:=[119,97,105,116]) rfl (by decide) hv
 exact ⟨rfl,hB⟩
end
end Go.Proofs.YteffedbdfaiajaaGreatDoor
