/- ObserveParses answers true whatever text it is given, and leaves it as it was: its card is proved. Condition: the row's own (the listed package-level variables hold what the program's text lays, which the card ties to the text). -/
import Derived.Test.YtpmapognbdiahaaGreatDoorORunFOne
import Derived.Test.YtpmapognbdiahaaGreatDoorPvPAnd
set_option linter.all false
namespace Go.Proofs.YtpmapognbdiahaaGreatDoor
open Go Go.RowKit Go.ChangeShapes Go.WideShapes Go.ChangeAt
def aeM (cs:List Value):Obj→Obj
 | .cells _ t frozen => .cells cs.toArray t frozen
 | o=>o
noncomputable def laidWorld (os:Os):World:=
 {World.holding Tryz.prog os ⟨#[],#[],[]⟩ with heap:=([(1,EZ),(2,mJ Rows.laid_gameplayer_lexer_words),(3,mJ Rows.laid_internal_strconv_uint64pow10),(4,mJ Rows.laid_math_bits_deBruijn32tab),(5,mJ Rows.laid_math_bits_deBruijn64tab)]:List (Nat×List Value)).foldl (fun h p=>h.modify p.1 (aeM p.2)) (World.holding Tryz.prog os ⟨#[],#[],[]⟩).heap }
abbrev v0:Value := .string ⟨#[]⟩
set_option maxRecDepth 100000 in
theorem laid_met (os:Os):laidMet Tryz.prog Rows.observeParsesRow.laid ((laidWorld os).forCall (fun _ _=>0) ⟨#[],#[v0],[]⟩).memory:=
 laidMet_of_run' 8 (by kernel_rfl) (by kernel_rfl)
theorem reads (os:Os) {H:Type} (enc:TypeId×Value→H):∃ places,DataW.whole enc Tryz.prog ((laidWorld os).forCall (fun _ _=>0) ⟨#[],#[v0],[]⟩).memory Tryz.f3.params.toList Rows.observeParsesSpec.vars false #[v0].toList 8=some ([.lit (.string [])],[],places):=
 ⟨[],by kernel_rfl⟩
set_option maxRecDepth 100000 in
theorem lifted (os:Os) (started:os.Started) (H:Type) (enc:TypeId×Value→H) (F:Stop.Interp) :
  ReturnsInHanded {} Tryz.checked os 3 .any ((OpenSpec.ofChange Rows.observeParsesSpec).preRow enc Tryz.prog Tryz.f3 Rows.observeParsesRow.domain false Rows.observeParsesRow.laid) (((OpenSpec.ofChange Rows.observeParsesSpec).at F).post enc Tryz.prog Tryz.f3 false true false false):=by
 obtain ⟨places,hx⟩:=reads os enc;refine returnsInHanded_of_row (C:=Tryz.checked) (s:=OpenSpec.ofChange Rows.observeParsesSpec) own started (by kernel_rfl) Tryz.func3
  (witness_row_at (enc:=enc) (C:=Tryz.checked) false (laidWorld os) #[v0] rfl (by kernel_rfl) (by kernel_rfl) (by kernel_rfl)
   (OpenSpec.preRow_of_cond 8 hx (by kernel_rfl) (fun k hk=>by cases hk) (by kernel_rfl) (laid_met os))) ?_
 intro W base args ds gs before hval hW _ _ _ hL hS _;exact contract H enc W args ds gs before base hval hW hL hS
set_option maxRecDepth 100000 in
theorem said:Rows.ObserveParsesSaid:=
 OpenClaim.holds_of_cond 3 Tryz.f3 rfl rfl rfl rfl rfl rfl rfl ⟨rfl,rfl,rfl,rfl,rfl⟩ rfl rfl rfl rfl rfl (by kernel_rfl) Tryz.func3 Uj
  (of_decide_eq_true (by kernel_rfl)) (by unfold Func.isWrapper;first | (rw [if_pos (by decide +kernel)];kernel_rfl) | (rw [if_neg (by decide +kernel)];exact ⟨rfl,rfl⟩))
  (fun os started H enc _ F=>by rw [OpenClaim.pre_eq_preRow];exact lifted os started H enc F)
theorem plain (f:FuncId) (fn:Func) (hf:Tryz.pinned.checked.prog.funcNamed "gameplayer/gameplayerlaw39.ObserveParses" = some f) (hfn:Tryz.pinned.checked.prog.funcs[f]?=some fn) :
  true=Tryz.pinned.checked.prog.looks []∧∀ (j:Nat) t,fn.params[j]?=some t→Tryz.pinned.checked.prog.wantsStandIn t=false:=by
 obtain rfl:f=3:=Option.some.inj ((show Tryz.prog.funcNamed "gameplayer/gameplayerlaw39.ObserveParses" = some 3 by kernel_rfl).symm.trans hf) |>.symm;obtain rfl:fn=Tryz.f3:=(Option.some.inj (Tryz.func3.symm.trans hfn)).symm;refine ⟨by kernel_rfl,fun j t ht=>?_⟩;rw [Tryz.params3] at ht;have ht':t=9:=by simpa using Array.mem_of_getElem? ht
 rw [ht'];exact (show Tryz.prog.wantsStandIn 9=false by kernel_rfl)
set_option maxRecDepth 100000 in
theorem card:Rows.ObserveParsesCardSaid:=
 Claim7.holds_tied_plain_at .later [] _ _ _ _ said (fun _ h=>by cases h) (by kernel_rfl) (fun _ h=>by cases h) observeParses_row_tie rfl ⟨rfl,rfl⟩ (by kernel_rfl) rfl plain goes_by
#print axioms card
end Go.Proofs.YtpmapognbdiahaaGreatDoor
