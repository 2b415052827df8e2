/- ObserveTexts answers true whatever views it is given of bulk at most 1048576, and leaves them as they were: its card is proved. Condition: the row's own (the listed package-level variables hold what the program's text lays, which the card ties to the text). -/
import Derived.Test.YtbhfbliodeagmaaGreatDoorORunFOne
import Derived.Test.YtbhfbliodeagmaaGreatDoorTmAAnd
set_option linter.all false
namespace Go.Proofs.YtbhfbliodeagmaaGreatDoor
open Go Go.RowKit Go.ChangeShapes Go.WideShapes Go.ChangeAt
def ah8 (cs:List Value):Obj→Obj
 | .cells _ t frozen => .cells cs.toArray t frozen
 | o=>o
noncomputable def laidWorld (os:Os):World:=
 {World.holding Tryz.prog os ⟨#[],#[],[]⟩ with heap:=([(1,Jj),(2,oJ Rows.laid_gameplayer_lexer_words),(3,oJ Rows.laid_internal_strconv_uint64pow10),(4,oJ Rows.laid_math_bits_deBruijn32tab),(5,oJ Rows.laid_math_bits_deBruijn64tab)]:List (Nat×List Value)).foldl (fun h p=>h.modify p.1 (ah8 p.2)) (World.holding Tryz.prog os ⟨#[],#[],[]⟩).heap }
abbrev v0:Value := .slice none 0 0
set_option maxRecDepth 100000 in
theorem laid_met (os:Os):laidMet Tryz.prog Rows.observeTextsUptoRow.laid ((laidWorld os).forCall (fun _ _=>0) ⟨#[],#[v0,v0],[]⟩).memory:=
 laidMet_of_run' 8 (by kernel_rfl) (by kernel_rfl)
theorem reads (os:Os) {H:Type} (enc:TypeId×Value→H):∃ places,DataW.whole enc Tryz.prog ((laidWorld os).forCall (fun _ _=>0) ⟨#[],#[v0,v0],[]⟩).memory Tryz.f3.params.toList Rows.observeTextsSpec.vars false #[v0,v0].toList 8=some ([.nil,.nil],[],places):=
 ⟨[],by kernel_rfl⟩
theorem XB {H:Type}:Rows.uptoSmall H [.nil,.nil]=true:=rfl
set_option maxRecDepth 100000 in
theorem lifted (os:Os) (started:os.Started) (H:Type) (enc:TypeId×Value→H) (F:Stop.Interp) :
  ReturnsInHanded {} Tryz.checked os 3 .any ((Rows.OpenSpec.upto Rows.observeTextsSpec).preRow enc Tryz.prog Tryz.f3 Rows.observeTextsUptoRow.domain false Rows.observeTextsUptoRow.laid) (((Rows.OpenSpec.upto Rows.observeTextsSpec).at F).post enc Tryz.prog Tryz.f3 false true false false):=by
 obtain ⟨places,hx⟩:=reads os enc
 refine returnsInHanded_of_row (C:=Tryz.checked) (s:=Rows.OpenSpec.upto Rows.observeTextsSpec) own started (by kernel_rfl) Tryz.func3
  (witness_row_at (enc:=enc) (C:=Tryz.checked) false (laidWorld os) #[v0,v0] rfl (by kernel_rfl) (by kernel_rfl) (by kernel_rfl)
   (OpenSpec.preRow_of_cond 8 hx (by kernel_rfl) (fun k hk=>by cases hk;exact XB) (by kernel_rfl) (laid_met os))) ?_
 intro W base args ds gs before hval hW _ hC _ hL hS _
 exact contract H enc W args ds gs before base hval hW (hC _ rfl) hL hS
set_option maxRecDepth 100000 in
theorem said:Rows.ObserveTextsUptoSaid:=
 OpenClaim.holds_of_cond 3 Tryz.f3 rfl rfl rfl rfl rfl rfl rfl ⟨rfl,rfl,rfl,rfl,rfl⟩ rfl rfl rfl rfl rfl (by kernel_rfl) Tryz.func3 X5
  (of_decide_eq_true (by kernel_rfl)) (by unfold Func.isWrapper;first | (rw [if_pos (by decide +kernel)];kernel_rfl) | (rw [if_neg (by decide +kernel)];exact ⟨rfl,rfl⟩))
  (fun os started H enc _ F=>by rw [OpenClaim.pre_eq_preRow];exact lifted os started H enc F)
theorem plain (f:FuncId) (fn:Func) (hf:Tryz.pinned.checked.prog.funcNamed "gameplayer/gameplayerlaw39.ObserveTexts" = some f) (hfn:Tryz.pinned.checked.prog.funcs[f]?=some fn) :
  true=Tryz.pinned.checked.prog.looks []∧∀ (j:Nat) t,fn.params[j]?=some t→Tryz.pinned.checked.prog.wantsStandIn t=false:=by
 obtain rfl:f=3:=Option.some.inj ((show Tryz.prog.funcNamed "gameplayer/gameplayerlaw39.ObserveTexts" = some 3 by kernel_rfl).symm.trans hf) |>.symm
 obtain rfl:fn=Tryz.f3:=(Option.some.inj (Tryz.func3.symm.trans hfn)).symm
 refine ⟨by kernel_rfl,fun j t ht=>?_⟩
 rw [Tryz.params3] at ht
 have ht':t=22:=by simpa using Array.mem_of_getElem? ht
 rw [ht']
 exact (show Tryz.prog.wantsStandIn 22=false by kernel_rfl)
set_option maxRecDepth 100000 in
theorem card:Rows.ObserveTextsUptoCardSaid:=
 Claim7.holds_tied_plain_at .later [] _ _ _ _ said (fun _ h=>by cases h) (by kernel_rfl) (fun _ h=>by cases h) observeTextsUpto_row_tie rfl ⟨rfl,rfl⟩ (by kernel_rfl) rfl plain goes_by
#print axioms card
end Go.Proofs.YtbhfbliodeagmaaGreatDoor
