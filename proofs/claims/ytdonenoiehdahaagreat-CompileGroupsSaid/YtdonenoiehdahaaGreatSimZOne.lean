/- Sim: alive() runs, in one go. -/
import Derived.Test.YtdonenoiehdahaaGreatSimFtOne
set_option linter.all false
namespace Go.Sim
open Go Go.RowKit
open Go.Abs (TE)
noncomputable def ad7 (r:FR):Bool:=FR.rec (motive:=fun _=>Bool) (fun _=>false) (fun v _ _=>Go.Sim.asBool v (fun b=>b) false) r
def gZ:Gh:=fun id=>⟨id.num,0,0⟩
theorem agt {T:Nat→TE} {w:World} {ng:Nat}:HR T w ng gZ (fun _=>none) ⟨ng⟩ w where
 os:=rfl
 tape:=rfl
 output:=rfl
 size:=Nat.le_refl _
 old:=fun _ _=>rfl
 obj:=fun _ _ h=>by cases h
 sep:=fun _ _ _ _ h=>by cases h
 new:=fun _ _ h=>by cases h
 glob:=fun i _=>⟨zJ i,rfl⟩
 ngx:=Nat.le_refl _
theorem aah {P:Program} {T:Nat→TE} {ng f:Nat} {call:Cl} (hc:∀ w0,jh P T w0 ng call) (hb:∃ fn,P.funcs[f]?=some fn∧fn.body.isNone=false) (h:ad7 (call f [] .lf ⟨ng⟩)=true) (w:World) :
  Calls P f #[] w fun e w'=>e = .returned (.bool true)∧Below w.heap.size w w':=by
 obtain ⟨v,t',nx',hr,hv⟩:∃ v t' nx',call f [] .lf ⟨ng⟩ = .ret v t' nx'∧v = .bool true:=by
  cases hr:call f [] .lf ⟨ng⟩ with
  | bad n=>rw [hr] at h;cases h
  | ret v t' nx'=>
    rw [hr] at h;obtain ⟨b,rfl,hb⟩:=pX (show Go.Sim.asBool v (fun b=>b) false=true from h) (by decide);exact ⟨_,_,_,rfl,by rw [hb]⟩
 subst hv;rcases hc w _ _ _ _ _ _ _ hr with ⟨_,h1⟩ | ⟨_,_,⟨fn,h3,h4⟩,_⟩
 ·refine (h1 gZ (fun _=>none) w [] agt (fun id o ho=>by rw [B.jB] at ho;cases ho) .nil).mono ?_;rintro e w' ⟨g',hp',val,rfl,st,hval⟩;refine ⟨by cases hval;rfl,st.hr.os,st.hr.tape,st.hr.output,st.sz,fun k hk=>st.hr.old k hk⟩
 ·obtain ⟨fn',h5,h6⟩:=hb;rw [h3] at h5;cases h5;rw [h4] at h6;cases h6
end Go.Sim
namespace Go.Proofs.YtdonenoiehdahaaGreat
open Go Go.Sim Go.RowKit
theorem dZ:ad7 (Uj T FF 1 1000 1000 8 [] .lf ⟨1⟩)=true:=by kernel_rfl
theorem Rn (w:World):Calls Tryz.prog 8 #[] w fun e w'=>e = .returned (.bool true)∧Below w.heap.size w w':=
 aah (fun w0=>GX hT (hF w0) 1000 1000) ⟨_,Tryz.func8,by kernel_rfl⟩ dZ w
end Go.Proofs.YtdonenoiehdahaaGreat
