/- Sim: facts of function 37 (gameplayer/term.Compare). Printed by a program (SimF.lean). -/
import Derived.Test.YtjjiblgcmdbcoaaGreatDoorSimDM0And
set_option linter.unusedVariables false
set_option linter.unusedSimpArgs false
set_option linter.all false
namespace Go.Proofs.YtjjiblgcmdbcoaaGreatDoor
open Go Go.Sim

noncomputable def dM3_0 : Fact := ⟨[(.agg [(.str 4 1919904869), (.sl ⟨5⟩ 2 0 1 none)]), (.agg [(.str 4 1768843636), (.sl ⟨6⟩ 2 0 1 none)])], [], 7, (.int .i64 (.ofNat 1)), [], [], [], 15⟩
theorem dM3_0_ok : factB T FFM2 5 1000 1000 37 dM3_0 = true := by kernel_rfl
noncomputable def dM3_1 : Fact := ⟨[(.agg [(.str 1 120), .nils]), (.agg [(.str 1 120), .nils])], [], 5, (.int .i64 (.ofNat 0)), [], [], [], 17⟩
theorem dM3_1_ok : factB T FFM2 5 1000 1000 37 dM3_1 = true := by kernel_rfl
noncomputable def dM3_2 : Fact := ⟨[(.agg [(.str 4 1919904869), (.sl ⟨5⟩ 2 0 1 none)]), (.agg [(.str 4 1919904869), (.sl ⟨6⟩ 2 0 1 none)])], [(5, .blk false 2 [(.str 1 120), .nils]), (6, .blk false 2 [(.str 1 120), .nils])], 7, (.int .i64 (.ofNat 0)), [], [5, 6], [], 27⟩
theorem dM3_2_ok : factB T FFM2 5 1000 1000 37 dM3_2 = true := by kernel_rfl
noncomputable def dM3_3 : Fact := ⟨[(.agg [(.str 4 1768843636), (.sl ⟨5⟩ 2 0 1 none)]), (.agg [(.str 4 1919904869), (.sl ⟨6⟩ 2 0 1 none)])], [], 7, (.int .i64 (.negSucc 0)), [], [], [], 15⟩
theorem dM3_3_ok : factB T FFM2 5 1000 1000 37 dM3_3 = true := by kernel_rfl
noncomputable def dM3_4 : Fact := ⟨[(.agg [(.str 2 28526), .nils]), (.agg [(.str 2 28526), .nils])], [], 5, (.int .i64 (.ofNat 0)), [], [], [], 17⟩
theorem dM3_4_ok : factB T FFM2 5 1000 1000 37 dM3_4 = true := by kernel_rfl
noncomputable def dM3_5 : Fact := ⟨[(.agg [(.str 4 1768843636), (.sl ⟨5⟩ 2 0 1 none)]), (.agg [(.str 4 1768843636), (.sl ⟨6⟩ 2 0 1 none)])], [(5, .blk false 2 [(.str 2 28526), .nils]), (6, .blk false 2 [(.str 2 28526), .nils])], 7, (.int .i64 (.ofNat 0)), [], [5, 6], [], 27⟩
theorem dM3_5_ok : factB T FFM2 5 1000 1000 37 dM3_5 = true := by kernel_rfl
noncomputable def dM3_6 : Fact := ⟨[(.agg [(.str 4 1919904869), (.sl ⟨5⟩ 2 0 1 none)]), (.agg [(.str 4 1953658213), (.sl ⟨6⟩ 2 0 1 none)])], [], 7, (.int .i64 (.negSucc 0)), [], [], [], 15⟩
theorem dM3_6_ok : factB T FFM2 5 1000 1000 37 dM3_6 = true := by kernel_rfl
noncomputable def dM3_7 : Fact := ⟨[(.agg [(.str 4 1919904869), (.sl ⟨5⟩ 2 0 1 none)]), (.agg [(.str 5 465557741932), (.sl ⟨6⟩ 2 0 2 none)])], [], 7, (.int .i64 (.negSucc 0)), [], [], [], 15⟩
theorem dM3_7_ok : factB T FFM2 5 1000 1000 37 dM3_7 = true := by kernel_rfl
noncomputable def dM3_8 : Fact := ⟨[(.agg [(.str 4 1953658213), (.sl ⟨5⟩ 2 0 1 none)]), (.agg [(.str 5 465557741932), (.sl ⟨6⟩ 2 0 2 none)])], [], 7, (.int .i64 (.negSucc 0)), [], [], [], 15⟩
theorem dM3_8_ok : factB T FFM2 5 1000 1000 37 dM3_8 = true := by kernel_rfl
noncomputable def dM3_9 : Fact := ⟨[(.agg [(.str 4 1937006969), .nils]), (.agg [(.str 5 465557354085), .nils])], [], 5, (.int .i64 (.ofNat 1)), [], [], [], 17⟩
theorem dM3_9_ok : factB T FFM2 5 1000 1000 37 dM3_9 = true := by kernel_rfl
noncomputable def dM3_10 : Fact := ⟨[(.agg [(.str 5 465557741932), (.sl ⟨5⟩ 2 0 2 none)]), (.agg [(.str 5 465557741932), (.sl ⟨6⟩ 2 0 2 none)])], [(5, .blk false 4 [(.str 1 120), .nils, (.str 4 1937006969), .nils]), (6, .blk false 4 [(.str 1 120), .nils, (.str 5 465557354085), .nils])], 7, (.int .i64 (.ofNat 1)), [], [5, 6], [], 39⟩
theorem dM3_10_ok : factB T FFM2 5 1000 1000 37 dM3_10 = true := by kernel_rfl
noncomputable def dM3_11 : Fact := ⟨[(.agg [(.str 4 1953658213), (.sl ⟨5⟩ 2 0 1 none)]), (.agg [(.str 4 1953658213), (.sl ⟨5⟩ 2 0 1 none)])], [(5, .blk false 2 [(.str 2 28526), .nils])], 6, (.int .i64 (.ofNat 0)), [], [5], [], 26⟩
theorem dM3_11_ok : factB T FFM2 5 1000 1000 37 dM3_11 = true := by kernel_rfl
noncomputable def dM3_12 : Fact := ⟨[(.agg [(.str 4 1953658213), (.sl ⟨5⟩ 2 0 1 none)]), (.agg [(.str 4 1919904869), (.sl ⟨6⟩ 2 0 1 none)])], [], 7, (.int .i64 (.ofNat 1)), [], [], [], 15⟩
theorem dM3_12_ok : factB T FFM2 5 1000 1000 37 dM3_12 = true := by kernel_rfl
noncomputable def dM3_13 : Fact := ⟨[(.agg [(.str 4 1953658213), (.sl ⟨5⟩ 2 0 1 none)]), (.agg [(.str 4 1768843636), (.sl ⟨6⟩ 2 0 1 none)])], [], 7, (.int .i64 (.ofNat 1)), [], [], [], 15⟩
theorem dM3_13_ok : factB T FFM2 5 1000 1000 37 dM3_13 = true := by kernel_rfl
noncomputable def dM3_14 : Fact := ⟨[(.agg [(.str 4 1937006969), .nils]), (.agg [(.str 4 1937006969), .nils])], [], 5, (.int .i64 (.ofNat 0)), [], [], [], 17⟩
theorem dM3_14_ok : factB T FFM2 5 1000 1000 37 dM3_14 = true := by kernel_rfl
noncomputable def dM3_15 : Fact := ⟨[(.agg [(.str 5 465557741932), (.sl ⟨5⟩ 2 0 2 none)]), (.agg [(.str 5 465557741932), (.sl ⟨6⟩ 2 0 2 none)])], [(5, .blk false 4 [(.str 1 120), .nils, (.str 4 1937006969), .nils]), (6, .blk false 4 [(.str 1 120), .nils, (.str 4 1937006969), .nils])], 7, (.int .i64 (.ofNat 0)), [], [5, 6], [], 39⟩
theorem dM3_15_ok : factB T FFM2 5 1000 1000 37 dM3_15 = true := by kernel_rfl
noncomputable def dM3_16 : Fact := ⟨[(.agg [(.str 5 465557354085), .nils]), (.agg [(.str 4 1937006969), .nils])], [], 5, (.int .i64 (.negSucc 0)), [], [], [], 17⟩
theorem dM3_16_ok : factB T FFM2 5 1000 1000 37 dM3_16 = true := by kernel_rfl
noncomputable def dM3_17 : Fact := ⟨[(.agg [(.str 5 465557741932), (.sl ⟨5⟩ 2 0 2 none)]), (.agg [(.str 5 465557741932), (.sl ⟨6⟩ 2 0 2 none)])], [(5, .blk false 4 [(.str 1 120), .nils, (.str 5 465557354085), .nils]), (6, .blk false 4 [(.str 1 120), .nils, (.str 4 1937006969), .nils])], 7, (.int .i64 (.negSucc 0)), [], [5, 6], [], 39⟩
theorem dM3_17_ok : factB T FFM2 5 1000 1000 37 dM3_17 = true := by kernel_rfl
noncomputable def dM3_18 : Fact := ⟨[(.agg [(.str 5 465557354085), .nils]), (.agg [(.str 5 465557354085), .nils])], [], 5, (.int .i64 (.ofNat 0)), [], [], [], 17⟩
theorem dM3_18_ok : factB T FFM2 5 1000 1000 37 dM3_18 = true := by kernel_rfl
noncomputable def dM3_19 : Fact := ⟨[(.agg [(.str 5 465557741932), (.sl ⟨5⟩ 2 0 2 none)]), (.agg [(.str 5 465557741932), (.sl ⟨6⟩ 2 0 2 none)])], [(5, .blk false 4 [(.str 1 120), .nils, (.str 5 465557354085), .nils]), (6, .blk false 4 [(.str 1 120), .nils, (.str 5 465557354085), .nils])], 7, (.int .i64 (.ofNat 0)), [], [5, 6], [], 39⟩
theorem dM3_19_ok : factB T FFM2 5 1000 1000 37 dM3_19 = true := by kernel_rfl
noncomputable def dM3_20 : Fact := ⟨[(.agg [(.str 4 1953658213), (.sl ⟨5⟩ 2 0 1 none)]), (.agg [(.str 4 1685022067), (.sl ⟨6⟩ 2 0 2 none)])], [], 7, (.int .i64 (.negSucc 0)), [], [], [], 15⟩
theorem dM3_20_ok : factB T FFM2 5 1000 1000 37 dM3_20 = true := by kernel_rfl
noncomputable def dM3_21 : Fact := ⟨[(.agg [(.str 5 465557741932), (.sl ⟨5⟩ 2 0 2 none)]), (.agg [(.str 4 1685022067), (.sl ⟨6⟩ 2 0 2 none)])], [], 7, (.int .i64 (.ofNat 1)), [], [], [], 15⟩
theorem dM3_21_ok : factB T FFM2 5 1000 1000 37 dM3_21 = true := by kernel_rfl
noncomputable def dM3_22 : Fact := ⟨[(.agg [(.str 5 465557741932), (.sl ⟨5⟩ 2 0 2 none)]), (.agg [(.str 4 1685022067), (.sl ⟨5⟩ 2 0 2 none)])], [], 6, (.int .i64 (.ofNat 1)), [], [], [], 14⟩
theorem dM3_22_ok : factB T FFM2 5 1000 1000 37 dM3_22 = true := by kernel_rfl
noncomputable def dM3_23 : Fact := ⟨[(.agg [(.str 4 1685022067), (.sl ⟨5⟩ 2 0 2 none)]), (.agg [(.str 4 1685022067), (.sl ⟨6⟩ 2 0 2 none)])], [(5, .blk false 4 [(.str 1 120), .nils, (.str 5 465557354085), .nils]), (6, .blk false 4 [(.str 1 120), .nils, (.str 4 1937006969), .nils])], 7, (.int .i64 (.negSucc 0)), [], [5, 6], [], 39⟩
theorem dM3_23_ok : factB T FFM2 5 1000 1000 37 dM3_23 = true := by kernel_rfl
noncomputable def dM3_24 : Fact := ⟨[(.agg [(.str 4 1685022067), (.sl ⟨5⟩ 2 0 2 none)]), (.agg [(.str 4 1919904869), (.sl ⟨6⟩ 2 0 1 none)])], [], 7, (.int .i64 (.ofNat 1)), [], [], [], 15⟩
theorem dM3_24_ok : factB T FFM2 5 1000 1000 37 dM3_24 = true := by kernel_rfl
noncomputable def dM3_25 : Fact := ⟨[(.agg [(.str 4 1685022067), (.sl ⟨5⟩ 2 0 2 none)]), (.agg [(.str 4 1768843636), (.sl ⟨6⟩ 2 0 1 none)])], [], 7, (.int .i64 (.ofNat 1)), [], [], [], 15⟩
theorem dM3_25_ok : factB T FFM2 5 1000 1000 37 dM3_25 = true := by kernel_rfl
noncomputable def dM3_26 : Fact := ⟨[(.agg [(.str 4 1685022067), (.sl ⟨5⟩ 2 0 2 none)]), (.agg [(.str 5 465557741932), (.sl ⟨6⟩ 2 0 2 none)])], [], 7, (.int .i64 (.negSucc 0)), [], [], [], 15⟩
theorem dM3_26_ok : factB T FFM2 5 1000 1000 37 dM3_26 = true := by kernel_rfl
noncomputable def dM3_27 : Fact := ⟨[(.agg [(.str 4 1685022067), (.sl ⟨5⟩ 2 0 2 none)]), (.agg [(.str 4 1852143732), (.sl ⟨6⟩ 2 0 1 none)])], [], 7, (.int .i64 (.ofNat 1)), [], [], [], 15⟩
theorem dM3_27_ok : factB T FFM2 5 1000 1000 37 dM3_27 = true := by kernel_rfl
noncomputable def dM3_28 : Fact := ⟨[(.agg [(.str 4 1919904869), (.sl ⟨5⟩ 2 0 1 none)]), (.agg [(.str 4 1852143732), (.sl ⟨6⟩ 2 0 1 none)])], [], 7, (.int .i64 (.ofNat 1)), [], [], [], 15⟩
theorem dM3_28_ok : factB T FFM2 5 1000 1000 37 dM3_28 = true := by kernel_rfl
noncomputable def dM3_29 : Fact := ⟨[(.agg [(.str 4 1768843636), (.sl ⟨5⟩ 2 0 1 none)]), (.agg [(.str 4 1852143732), (.sl ⟨6⟩ 2 0 1 none)])], [], 7, (.int .i64 (.negSucc 0)), [], [], [], 15⟩
theorem dM3_29_ok : factB T FFM2 5 1000 1000 37 dM3_29 = true := by kernel_rfl
noncomputable def dM3_30 : Fact := ⟨[(.agg [(.str 2 28526), .nils]), (.agg [(.str 3 7300710), .nils])], [], 5, (.int .i64 (.ofNat 1)), [], [], [], 17⟩
theorem dM3_30_ok : factB T FFM2 5 1000 1000 37 dM3_30 = true := by kernel_rfl
noncomputable def dM3_31 : Fact := ⟨[(.agg [(.str 4 1852143732), (.sl ⟨5⟩ 2 0 1 none)]), (.agg [(.str 4 1852143732), (.sl ⟨6⟩ 2 0 1 none)])], [(5, .blk false 2 [(.str 2 28526), .nils]), (6, .blk false 2 [(.str 3 7300710), .nils])], 7, (.int .i64 (.ofNat 1)), [], [5, 6], [], 27⟩
theorem dM3_31_ok : factB T FFM2 5 1000 1000 37 dM3_31 = true := by kernel_rfl
noncomputable def dM3_32 : Fact := ⟨[(.agg [(.str 4 1852143732), (.sl ⟨5⟩ 2 0 1 none)]), (.agg [(.str 4 1953658213), (.sl ⟨6⟩ 2 0 1 none)])], [], 7, (.int .i64 (.negSucc 0)), [], [], [], 15⟩
theorem dM3_32_ok : factB T FFM2 5 1000 1000 37 dM3_32 = true := by kernel_rfl
noncomputable def dM3_33 : Fact := ⟨[(.agg [(.str 4 1685022067), (.sl ⟨5⟩ 2 0 2 none)]), (.agg [(.str 4 1685022067), (.sl ⟨6⟩ 2 0 2 none)])], [(5, .blk false 4 [(.str 1 120), .nils, (.str 4 1937006969), .nils]), (6, .blk false 4 [(.str 1 120), .nils, (.str 5 465557354085), .nils])], 7, (.int .i64 (.ofNat 1)), [], [5, 6], [], 39⟩
theorem dM3_33_ok : factB T FFM2 5 1000 1000 37 dM3_33 = true := by kernel_rfl
noncomputable def dM3_34 : Fact := ⟨[(.agg [(.str 4 1685022067), (.sl ⟨5⟩ 2 0 2 none)]), (.agg [(.str 4 1685022067), (.sl ⟨5⟩ 2 0 2 none)])], [(5, .blk false 4 [(.str 1 120), .nils, (.str 5 465557354085), .nils])], 6, (.int .i64 (.ofNat 0)), [], [5], [], 38⟩
theorem dM3_34_ok : factB T FFM2 5 1000 1000 37 dM3_34 = true := by kernel_rfl
noncomputable def dM3_35 : Fact := ⟨[(.agg [(.str 4 1685022067), (.sl ⟨5⟩ 2 0 2 none)]), (.agg [(.str 4 1685022067), (.sl ⟨5⟩ 2 0 2 none)])], [(5, .blk false 4 [(.str 1 120), .nils, (.str 4 1937006969), .nils])], 6, (.int .i64 (.ofNat 0)), [], [5], [], 38⟩
theorem dM3_35_ok : factB T FFM2 5 1000 1000 37 dM3_35 = true := by kernel_rfl
noncomputable def dM3_36 : Fact := ⟨[(.agg [(.str 4 1852143732), (.sl ⟨5⟩ 2 0 1 none)]), (.agg [(.str 4 1919904869), (.sl ⟨6⟩ 2 0 1 none)])], [], 7, (.int .i64 (.negSucc 0)), [], [], [], 15⟩
theorem dM3_36_ok : factB T FFM2 5 1000 1000 37 dM3_36 = true := by kernel_rfl
noncomputable def dM3_37 : Fact := ⟨[(.agg [(.str 4 1852143732), (.sl ⟨5⟩ 2 0 1 none)]), (.agg [(.str 4 1768843636), (.sl ⟨6⟩ 2 0 1 none)])], [], 7, (.int .i64 (.ofNat 1)), [], [], [], 15⟩
theorem dM3_37_ok : factB T FFM2 5 1000 1000 37 dM3_37 = true := by kernel_rfl
noncomputable def dM3_38 : Fact := ⟨[(.agg [(.str 4 1953658213), (.sl ⟨5⟩ 2 0 1 none)]), (.agg [(.str 4 1852143732), (.sl ⟨6⟩ 2 0 1 none)])], [], 7, (.int .i64 (.ofNat 1)), [], [], [], 15⟩
theorem dM3_38_ok : factB T FFM2 5 1000 1000 37 dM3_38 = true := by kernel_rfl
noncomputable def dM3_39 : Fact := ⟨[(.agg [(.str 4 1852143732), (.sl ⟨5⟩ 2 0 1 none)]), (.agg [(.str 4 1852143732), (.sl ⟨6⟩ 2 0 1 none)])], [(5, .blk false 2 [(.str 2 28526), .nils]), (6, .blk false 2 [(.str 2 28526), .nils])], 7, (.int .i64 (.ofNat 0)), [], [5, 6], [], 27⟩
theorem dM3_39_ok : factB T FFM2 5 1000 1000 37 dM3_39 = true := by kernel_rfl
noncomputable def dM3_40 : Fact := ⟨[(.agg [(.str 3 7300710), .nils]), (.agg [(.str 2 28526), .nils])], [], 5, (.int .i64 (.negSucc 0)), [], [], [], 17⟩
theorem dM3_40_ok : factB T FFM2 5 1000 1000 37 dM3_40 = true := by kernel_rfl
noncomputable def dM3_41 : Fact := ⟨[(.agg [(.str 4 1852143732), (.sl ⟨5⟩ 2 0 1 none)]), (.agg [(.str 4 1852143732), (.sl ⟨6⟩ 2 0 1 none)])], [(5, .blk false 2 [(.str 3 7300710), .nils]), (6, .blk false 2 [(.str 2 28526), .nils])], 7, (.int .i64 (.negSucc 0)), [], [5, 6], [], 27⟩
theorem dM3_41_ok : factB T FFM2 5 1000 1000 37 dM3_41 = true := by kernel_rfl
noncomputable def dM3_42 : Fact := ⟨[(.agg [(.str 3 7300710), .nils]), (.agg [(.str 3 7300710), .nils])], [], 5, (.int .i64 (.ofNat 0)), [], [], [], 17⟩
theorem dM3_42_ok : factB T FFM2 5 1000 1000 37 dM3_42 = true := by kernel_rfl
noncomputable def dM3_43 : Fact := ⟨[(.agg [(.str 4 1852143732), (.sl ⟨5⟩ 2 0 1 none)]), (.agg [(.str 4 1852143732), (.sl ⟨6⟩ 2 0 1 none)])], [(5, .blk false 2 [(.str 3 7300710), .nils]), (6, .blk false 2 [(.str 3 7300710), .nils])], 7, (.int .i64 (.ofNat 0)), [], [5, 6], [], 27⟩
theorem dM3_43_ok : factB T FFM2 5 1000 1000 37 dM3_43 = true := by kernel_rfl
noncomputable def dM3_44 : Fact := ⟨[(.agg [(.str 4 1953658213), (.sl ⟨5⟩ 2 0 1 none)]), (.agg [(.str 4 1953658213), (.sl ⟨6⟩ 2 0 1 none)])], [(5, .blk false 2 [(.str 2 28526), .nils]), (6, .blk false 2 [(.str 3 7300710), .nils])], 7, (.int .i64 (.ofNat 1)), [], [5, 6], [], 27⟩
theorem dM3_44_ok : factB T FFM2 5 1000 1000 37 dM3_44 = true := by kernel_rfl
noncomputable def dM3_45 : Fact := ⟨[(.agg [(.str 4 1953658213), (.sl ⟨5⟩ 2 0 1 none)]), (.agg [(.str 4 1953658213), (.sl ⟨6⟩ 2 0 1 none)])], [(5, .blk false 2 [(.str 2 28526), .nils]), (6, .blk false 2 [(.str 2 28526), .nils])], 7, (.int .i64 (.ofNat 0)), [], [5, 6], [], 27⟩
theorem dM3_45_ok : factB T FFM2 5 1000 1000 37 dM3_45 = true := by kernel_rfl
noncomputable def dM3_46 : Fact := ⟨[(.agg [(.str 4 1852143732), (.sl ⟨5⟩ 2 0 1 none)]), (.agg [(.str 4 1953658213), (.sl ⟨5⟩ 2 0 1 none)])], [], 6, (.int .i64 (.negSucc 0)), [], [], [], 14⟩
theorem dM3_46_ok : factB T FFM2 5 1000 1000 37 dM3_46 = true := by kernel_rfl
noncomputable def dM3_47 : Fact := ⟨[(.agg [(.str 4 1953658213), (.sl ⟨5⟩ 2 0 1 none)]), (.agg [(.str 4 1953658213), (.sl ⟨6⟩ 2 0 1 none)])], [(5, .blk false 2 [(.str 3 7300710), .nils]), (6, .blk false 2 [(.str 2 28526), .nils])], 7, (.int .i64 (.negSucc 0)), [], [5, 6], [], 27⟩
theorem dM3_47_ok : factB T FFM2 5 1000 1000 37 dM3_47 = true := by kernel_rfl
noncomputable def dM3_48 : Fact := ⟨[(.agg [(.str 4 1953658213), (.sl ⟨5⟩ 2 0 1 none)]), (.agg [(.str 8 8387235695293260140), .nils])], [], 6, (.int .i64 (.ofNat 1)), [], [], [], 16⟩
theorem dM3_48_ok : factB T FFM2 5 1000 1000 37 dM3_48 = true := by kernel_rfl
noncomputable def dM3_49 : Fact := ⟨[(.agg [(.str 4 1852143732), (.sl ⟨5⟩ 2 0 1 none)]), (.agg [(.str 8 8387235695293260140), .nils])], [], 6, (.int .i64 (.ofNat 1)), [], [], [], 16⟩
theorem dM3_49_ok : factB T FFM2 5 1000 1000 37 dM3_49 = true := by kernel_rfl
noncomputable def dM3_50 : Fact := ⟨[(.agg [(.str 4 1768843636), (.sl ⟨5⟩ 2 0 1 none)]), (.agg [(.str 8 8387235695293260140), .nils])], [], 6, (.int .i64 (.ofNat 1)), [], [], [], 16⟩
theorem dM3_50_ok : factB T FFM2 5 1000 1000 37 dM3_50 = true := by kernel_rfl
noncomputable def dM3_51 : Fact := ⟨[(.agg [(.str 4 1953658213), (.sl ⟨5⟩ 2 0 1 none)]), (.agg [(.str 4 1735352684), (.sl ⟨6⟩ 2 0 2 none)])], [], 7, (.int .i64 (.negSucc 0)), [], [], [], 15⟩
theorem dM3_51_ok : factB T FFM2 5 1000 1000 37 dM3_51 = true := by kernel_rfl
noncomputable def dM3_52 : Fact := ⟨[(.agg [(.str 4 1685022067), (.sl ⟨5⟩ 2 0 2 none)]), (.agg [(.str 4 1735352684), (.sl ⟨6⟩ 2 0 2 none)])], [], 7, (.int .i64 (.negSucc 0)), [], [], [], 15⟩
theorem dM3_52_ok : factB T FFM2 5 1000 1000 37 dM3_52 = true := by kernel_rfl
noncomputable def dM3_53 : Fact := ⟨[(.agg [(.str 5 465557741932), (.sl ⟨5⟩ 2 0 2 none)]), (.agg [(.str 4 1735352684), (.sl ⟨6⟩ 2 0 2 none)])], [], 7, (.int .i64 (.ofNat 1)), [], [], [], 15⟩
theorem dM3_53_ok : factB T FFM2 5 1000 1000 37 dM3_53 = true := by kernel_rfl
noncomputable def dM3_54 : Fact := ⟨[(.agg [(.str 4 1953658213), (.sl ⟨5⟩ 2 0 1 none)]), (.agg [(.str 4 1953658213), (.sl ⟨5⟩ 2 0 1 none)])], [(5, .blk false 2 [(.str 3 7300710), .nils])], 6, (.int .i64 (.ofNat 0)), [], [5], [], 26⟩
theorem dM3_54_ok : factB T FFM2 5 1000 1000 37 dM3_54 = true := by kernel_rfl
noncomputable def dM3_55 : Fact := ⟨[(.agg [(.str 4 1735352684), (.sl ⟨5⟩ 2 0 2 none)]), (.agg [(.str 4 1685022067), (.sl ⟨6⟩ 2 0 2 none)])], [], 7, (.int .i64 (.ofNat 1)), [], [], [], 15⟩
theorem dM3_55_ok : factB T FFM2 5 1000 1000 37 dM3_55 = true := by kernel_rfl
noncomputable def dM3_56 : Fact := ⟨[(.agg [(.str 8 8387235695293260140), .nils]), (.agg [(.str 4 1768843636), (.sl ⟨5⟩ 2 0 1 none)])], [], 6, (.int .i64 (.negSucc 0)), [], [], [], 16⟩
theorem dM3_56_ok : factB T FFM2 5 1000 1000 37 dM3_56 = true := by kernel_rfl
noncomputable def dM3_57 : Fact := ⟨[(.agg [(.str 4 1735352684), (.sl ⟨5⟩ 2 0 2 none)]), (.agg [(.str 5 465557741932), (.sl ⟨6⟩ 2 0 2 none)])], [], 7, (.int .i64 (.negSucc 0)), [], [], [], 15⟩
theorem dM3_57_ok : factB T FFM2 5 1000 1000 37 dM3_57 = true := by kernel_rfl
noncomputable def dM3_58 : Fact := ⟨[(.agg [(.str 8 8387235695293260140), .nils]), (.agg [(.str 8 8387235695293260140), .nils])], [], 5, (.int .i64 (.ofNat 0)), [], [], [], 17⟩
theorem dM3_58_ok : factB T FFM2 5 1000 1000 37 dM3_58 = true := by kernel_rfl
noncomputable def dM3_59 : Fact := ⟨[(.agg [(.str 3 3223600), .nils]), (.agg [(.str 3 3223600), .nils])], [], 5, (.int .i64 (.ofNat 0)), [], [], [], 13⟩
theorem dM3_59_ok : factB T FFM2 5 1000 1000 37 dM3_59 = true := by kernel_rfl
noncomputable def dM3_60 : Fact := ⟨[(.agg [(.str 4 1735352684), (.sl ⟨5⟩ 2 0 2 none)]), (.agg [(.str 4 1735352684), (.sl ⟨6⟩ 2 0 2 none)])], [(5, .blk false 4 [(.str 1 120), .nils, (.str 3 3223600), .nils]), (6, .blk false 4 [(.str 1 120), .nils, (.str 3 3223600), .nils])], 7, (.int .i64 (.ofNat 0)), [], [5, 6], [], 35⟩
theorem dM3_60_ok : factB T FFM2 5 1000 1000 37 dM3_60 = true := by kernel_rfl
noncomputable def dM3_61 : Fact := ⟨[(.agg [(.str 4 1685022067), (.sl ⟨5⟩ 2 0 2 none)]), (.agg [(.str 4 1685022067), (.sl ⟨6⟩ 2 0 2 none)])], [(5, .blk false 4 [(.str 1 120), .nils, (.str 4 1937006969), .nils]), (6, .blk false 4 [(.str 1 120), .nils, (.str 4 1937006969), .nils])], 7, (.int .i64 (.ofNat 0)), [], [5, 6], [], 39⟩
theorem dM3_61_ok : factB T FFM2 5 1000 1000 37 dM3_61 = true := by kernel_rfl
noncomputable def dM3_62 : Fact := ⟨[(.agg [(.str 4 1685022067), (.sl ⟨5⟩ 2 0 2 none)]), (.agg [(.str 4 1685022067), (.sl ⟨6⟩ 2 0 2 none)])], [(5, .blk false 4 [(.str 1 120), .nils, (.str 5 465557354085), .nils]), (6, .blk false 4 [(.str 1 120), .nils, (.str 5 465557354085), .nils])], 7, (.int .i64 (.ofNat 0)), [], [5, 6], [], 39⟩
theorem dM3_62_ok : factB T FFM2 5 1000 1000 37 dM3_62 = true := by kernel_rfl
noncomputable def dM3_63 : Fact := ⟨[(.agg [(.str 4 1953658213), (.sl ⟨5⟩ 2 0 1 none)]), (.agg [(.str 4 1953658213), (.sl ⟨6⟩ 2 0 1 none)])], [(5, .blk false 2 [(.str 3 7300710), .nils]), (6, .blk false 2 [(.str 3 7300710), .nils])], 7, (.int .i64 (.ofNat 0)), [], [5, 6], [], 27⟩
theorem dM3_63_ok : factB T FFM2 5 1000 1000 37 dM3_63 = true := by kernel_rfl
noncomputable def dM3_64 : Fact := ⟨[(.agg [(.str 8 8387235695293260140), .nils]), (.agg [(.str 4 1953658213), (.sl ⟨5⟩ 2 0 1 (some 1))])], [], 6, (.int .i64 (.negSucc 0)), [], [], [], 16⟩
theorem dM3_64_ok : factB T FFM2 5 1000 1000 37 dM3_64 = true := by kernel_rfl
noncomputable def dM3_65 : Fact := ⟨[(.agg [(.str 4 1768843636), (.sl ⟨5⟩ 2 0 1 none)]), (.agg [(.str 4 1953658213), (.sl ⟨6⟩ 2 0 1 (some 1))])], [], 7, (.int .i64 (.negSucc 0)), [], [], [], 15⟩
theorem dM3_65_ok : factB T FFM2 5 1000 1000 37 dM3_65 = true := by kernel_rfl
noncomputable def dM3_66 : Fact := ⟨[(.agg [(.str 4 1852143732), (.sl ⟨5⟩ 2 0 1 none)]), (.agg [(.str 4 1953658213), (.sl ⟨6⟩ 2 0 1 (some 1))])], [], 7, (.int .i64 (.negSucc 0)), [], [], [], 15⟩
theorem dM3_66_ok : factB T FFM2 5 1000 1000 37 dM3_66 = true := by kernel_rfl
noncomputable def dM3_67 : Fact := ⟨[(.agg [(.str 4 1919904869), (.sl ⟨5⟩ 2 0 1 none)]), (.agg [(.str 4 1953658213), (.sl ⟨6⟩ 2 0 1 (some 1))])], [], 7, (.int .i64 (.negSucc 0)), [], [], [], 15⟩
theorem dM3_67_ok : factB T FFM2 5 1000 1000 37 dM3_67 = true := by kernel_rfl
noncomputable def dM3_68 : Fact := ⟨[(.agg [(.str 4 1953658213), (.sl ⟨5⟩ 2 0 1 none)]), (.agg [(.str 4 1953658213), (.sl ⟨6⟩ 2 0 1 (some 1))])], [(5, .blk false 2 [(.str 3 7300710), .nils]), (6, .blk false 2 [(.str 3 7300710), .nils])], 7, (.int .i64 (.ofNat 0)), [], [5, 6], [], 27⟩
theorem dM3_68_ok : factB T FFM2 5 1000 1000 37 dM3_68 = true := by kernel_rfl
noncomputable def dM3_69 : Fact := ⟨[(.agg [(.str 4 1953658213), (.sl ⟨5⟩ 2 0 1 none)]), (.agg [(.str 4 1953658213), (.sl ⟨6⟩ 2 0 1 (some 1))])], [(5, .blk false 2 [(.str 3 7300710), .nils]), (6, .blk false 2 [(.str 2 28526), .nils])], 7, (.int .i64 (.negSucc 0)), [], [5, 6], [], 27⟩
theorem dM3_69_ok : factB T FFM2 5 1000 1000 37 dM3_69 = true := by kernel_rfl
noncomputable def dM3_70 : Fact := ⟨[(.agg [(.str 4 1953658213), (.sl ⟨5⟩ 2 0 1 none)]), (.agg [(.str 4 1953658213), (.sl ⟨6⟩ 2 0 1 (some 1))])], [(5, .blk false 2 [(.str 2 28526), .nils]), (6, .blk false 2 [(.str 2 28526), .nils])], 7, (.int .i64 (.ofNat 0)), [], [5, 6], [], 27⟩
theorem dM3_70_ok : factB T FFM2 5 1000 1000 37 dM3_70 = true := by kernel_rfl
noncomputable def dM3_71 : Fact := ⟨[(.agg [(.str 8 8387235695293260140), .nils]), (.agg [(.str 4 1685022067), (.sl ⟨5⟩ 2 0 2 (some 2))])], [], 6, (.int .i64 (.negSucc 0)), [], [], [], 16⟩
theorem dM3_71_ok : factB T FFM2 5 1000 1000 37 dM3_71 = true := by kernel_rfl
noncomputable def dM3_72 : Fact := ⟨[(.agg [(.str 4 1768843636), (.sl ⟨5⟩ 2 0 1 none)]), (.agg [(.str 4 1685022067), (.sl ⟨6⟩ 2 0 2 (some 2))])], [], 7, (.int .i64 (.negSucc 0)), [], [], [], 15⟩
theorem dM3_72_ok : factB T FFM2 5 1000 1000 37 dM3_72 = true := by kernel_rfl
noncomputable def dM3_73 : Fact := ⟨[(.agg [(.str 4 1852143732), (.sl ⟨5⟩ 2 0 1 none)]), (.agg [(.str 4 1685022067), (.sl ⟨6⟩ 2 0 2 (some 2))])], [], 7, (.int .i64 (.negSucc 0)), [], [], [], 15⟩
theorem dM3_73_ok : factB T FFM2 5 1000 1000 37 dM3_73 = true := by kernel_rfl
noncomputable def dM3_74 : Fact := ⟨[(.agg [(.str 4 1919904869), (.sl ⟨5⟩ 2 0 1 none)]), (.agg [(.str 4 1685022067), (.sl ⟨6⟩ 2 0 2 (some 2))])], [], 7, (.int .i64 (.negSucc 0)), [], [], [], 15⟩
theorem dM3_74_ok : factB T FFM2 5 1000 1000 37 dM3_74 = true := by kernel_rfl
noncomputable def dM3_75 : Fact := ⟨[(.agg [(.str 4 1953658213), (.sl ⟨5⟩ 2 0 1 none)]), (.agg [(.str 4 1685022067), (.sl ⟨6⟩ 2 0 2 (some 2))])], [], 7, (.int .i64 (.negSucc 0)), [], [], [], 15⟩
theorem dM3_75_ok : factB T FFM2 5 1000 1000 37 dM3_75 = true := by kernel_rfl
noncomputable def dM3_76 : Fact := ⟨[(.agg [(.str 4 1685022067), (.sl ⟨5⟩ 2 0 2 none)]), (.agg [(.str 4 1685022067), (.sl ⟨6⟩ 2 0 2 (some 2))])], [(5, .blk false 4 [(.str 1 120), .nils, (.str 5 465557354085), .nils]), (6, .blk false 4 [(.str 1 120), .nils, (.str 5 465557354085), .nils])], 7, (.int .i64 (.ofNat 0)), [], [5, 6], [], 39⟩
theorem dM3_76_ok : factB T FFM2 5 1000 1000 37 dM3_76 = true := by kernel_rfl
noncomputable def dM3_77 : Fact := ⟨[(.agg [(.str 4 1685022067), (.sl ⟨5⟩ 2 0 2 none)]), (.agg [(.str 4 1685022067), (.sl ⟨6⟩ 2 0 2 (some 2))])], [(5, .blk false 4 [(.str 1 120), .nils, (.str 5 465557354085), .nils]), (6, .blk false 4 [(.str 1 120), .nils, (.str 4 1937006969), .nils])], 7, (.int .i64 (.negSucc 0)), [], [5, 6], [], 39⟩
theorem dM3_77_ok : factB T FFM2 5 1000 1000 37 dM3_77 = true := by kernel_rfl
noncomputable def dM3_78 : Fact := ⟨[(.agg [(.str 4 1685022067), (.sl ⟨5⟩ 2 0 2 none)]), (.agg [(.str 4 1685022067), (.sl ⟨6⟩ 2 0 2 (some 2))])], [(5, .blk false 4 [(.str 1 120), .nils, (.str 4 1937006969), .nils]), (6, .blk false 4 [(.str 1 120), .nils, (.str 4 1937006969), .nils])], 7, (.int .i64 (.ofNat 0)), [], [5, 6], [], 39⟩
theorem dM3_78_ok : factB T FFM2 5 1000 1000 37 dM3_78 = true := by kernel_rfl
noncomputable def dM3_79 : Fact := ⟨[(.agg [(.str 8 8387235695293260140), .nils]), (.agg [(.str 4 1852143732), (.sl ⟨5⟩ 2 0 1 (some 1))])], [], 6, (.int .i64 (.negSucc 0)), [], [], [], 16⟩
theorem dM3_79_ok : factB T FFM2 5 1000 1000 37 dM3_79 = true := by kernel_rfl
noncomputable def dM3_80 : Fact := ⟨[(.agg [(.str 4 1768843636), (.sl ⟨5⟩ 2 0 1 none)]), (.agg [(.str 4 1852143732), (.sl ⟨6⟩ 2 0 1 (some 1))])], [], 7, (.int .i64 (.negSucc 0)), [], [], [], 15⟩
theorem dM3_80_ok : factB T FFM2 5 1000 1000 37 dM3_80 = true := by kernel_rfl
noncomputable def dM3_81 : Fact := ⟨[(.agg [(.str 4 1852143732), (.sl ⟨5⟩ 2 0 1 none)]), (.agg [(.str 4 1852143732), (.sl ⟨6⟩ 2 0 1 (some 1))])], [(5, .blk false 2 [(.str 3 7300710), .nils]), (6, .blk false 2 [(.str 3 7300710), .nils])], 7, (.int .i64 (.ofNat 0)), [], [5, 6], [], 27⟩
theorem dM3_81_ok : factB T FFM2 5 1000 1000 37 dM3_81 = true := by kernel_rfl
noncomputable def dM3_82 : Fact := ⟨[(.agg [(.str 4 1852143732), (.sl ⟨5⟩ 2 0 1 none)]), (.agg [(.str 4 1852143732), (.sl ⟨6⟩ 2 0 1 (some 1))])], [(5, .blk false 2 [(.str 3 7300710), .nils]), (6, .blk false 2 [(.str 2 28526), .nils])], 7, (.int .i64 (.negSucc 0)), [], [5, 6], [], 27⟩
theorem dM3_82_ok : factB T FFM2 5 1000 1000 37 dM3_82 = true := by kernel_rfl
noncomputable def dM3_83 : Fact := ⟨[(.agg [(.str 4 1852143732), (.sl ⟨5⟩ 2 0 1 none)]), (.agg [(.str 4 1852143732), (.sl ⟨6⟩ 2 0 1 (some 1))])], [(5, .blk false 2 [(.str 2 28526), .nils]), (6, .blk false 2 [(.str 2 28526), .nils])], 7, (.int .i64 (.ofNat 0)), [], [5, 6], [], 27⟩
theorem dM3_83_ok : factB T FFM2 5 1000 1000 37 dM3_83 = true := by kernel_rfl
noncomputable def dM3_84 : Fact := ⟨[(.agg [(.str 8 8387235695293260140), .nils]), (.agg [(.str 5 465557741932), (.sl ⟨5⟩ 2 0 2 (some 2))])], [], 6, (.int .i64 (.negSucc 0)), [], [], [], 16⟩
theorem dM3_84_ok : factB T FFM2 5 1000 1000 37 dM3_84 = true := by kernel_rfl
noncomputable def dM3_85 : Fact := ⟨[(.agg [(.str 4 1768843636), (.sl ⟨5⟩ 2 0 1 none)]), (.agg [(.str 5 465557741932), (.sl ⟨6⟩ 2 0 2 (some 2))])], [], 7, (.int .i64 (.negSucc 0)), [], [], [], 15⟩
theorem dM3_85_ok : factB T FFM2 5 1000 1000 37 dM3_85 = true := by kernel_rfl
noncomputable def dM3_86 : Fact := ⟨[(.agg [(.str 4 1852143732), (.sl ⟨5⟩ 2 0 1 none)]), (.agg [(.str 5 465557741932), (.sl ⟨6⟩ 2 0 2 (some 2))])], [], 7, (.int .i64 (.negSucc 0)), [], [], [], 15⟩
theorem dM3_86_ok : factB T FFM2 5 1000 1000 37 dM3_86 = true := by kernel_rfl
noncomputable def dM3_87 : Fact := ⟨[(.agg [(.str 4 1919904869), (.sl ⟨5⟩ 2 0 1 none)]), (.agg [(.str 5 465557741932), (.sl ⟨6⟩ 2 0 2 (some 2))])], [], 7, (.int .i64 (.negSucc 0)), [], [], [], 15⟩
theorem dM3_87_ok : factB T FFM2 5 1000 1000 37 dM3_87 = true := by kernel_rfl
noncomputable def dM3_88 : Fact := ⟨[(.agg [(.str 4 1953658213), (.sl ⟨5⟩ 2 0 1 none)]), (.agg [(.str 5 465557741932), (.sl ⟨6⟩ 2 0 2 (some 2))])], [], 7, (.int .i64 (.negSucc 0)), [], [], [], 15⟩
theorem dM3_88_ok : factB T FFM2 5 1000 1000 37 dM3_88 = true := by kernel_rfl
noncomputable def dM3_89 : Fact := ⟨[(.agg [(.str 4 1685022067), (.sl ⟨5⟩ 2 0 2 none)]), (.agg [(.str 5 465557741932), (.sl ⟨6⟩ 2 0 2 (some 2))])], [], 7, (.int .i64 (.negSucc 0)), [], [], [], 15⟩
theorem dM3_89_ok : factB T FFM2 5 1000 1000 37 dM3_89 = true := by kernel_rfl
noncomputable def dM3_90 : Fact := ⟨[(.agg [(.str 4 1735352684), (.sl ⟨5⟩ 2 0 2 none)]), (.agg [(.str 5 465557741932), (.sl ⟨6⟩ 2 0 2 (some 2))])], [], 7, (.int .i64 (.negSucc 0)), [], [], [], 15⟩
theorem dM3_90_ok : factB T FFM2 5 1000 1000 37 dM3_90 = true := by kernel_rfl
noncomputable def dM3_91 : Fact := ⟨[(.agg [(.str 5 465557741932), (.sl ⟨5⟩ 2 0 2 none)]), (.agg [(.str 5 465557741932), (.sl ⟨6⟩ 2 0 2 (some 2))])], [(5, .blk false 4 [(.str 1 120), .nils, (.str 5 465557354085), .nils]), (6, .blk false 4 [(.str 1 120), .nils, (.str 5 465557354085), .nils])], 7, (.int .i64 (.ofNat 0)), [], [5, 6], [], 39⟩
theorem dM3_91_ok : factB T FFM2 5 1000 1000 37 dM3_91 = true := by kernel_rfl
noncomputable def dM3_92 : Fact := ⟨[(.agg [(.str 5 465557741932), (.sl ⟨5⟩ 2 0 2 none)]), (.agg [(.str 5 465557741932), (.sl ⟨6⟩ 2 0 2 (some 2))])], [(5, .blk false 4 [(.str 1 120), .nils, (.str 5 465557354085), .nils]), (6, .blk false 4 [(.str 1 120), .nils, (.str 4 1937006969), .nils])], 7, (.int .i64 (.negSucc 0)), [], [5, 6], [], 39⟩
theorem dM3_92_ok : factB T FFM2 5 1000 1000 37 dM3_92 = true := by kernel_rfl
noncomputable def dM3_93 : Fact := ⟨[(.agg [(.str 5 465557741932), (.sl ⟨5⟩ 2 0 2 none)]), (.agg [(.str 5 465557741932), (.sl ⟨6⟩ 2 0 2 (some 2))])], [(5, .blk false 4 [(.str 1 120), .nils, (.str 4 1937006969), .nils]), (6, .blk false 4 [(.str 1 120), .nils, (.str 4 1937006969), .nils])], 7, (.int .i64 (.ofNat 0)), [], [5, 6], [], 39⟩
theorem dM3_93_ok : factB T FFM2 5 1000 1000 37 dM3_93 = true := by kernel_rfl
noncomputable def dM3_94 : Fact := ⟨[(.agg [(.str 8 8387235695293260140), .nils]), (.agg [(.str 4 1735352684), (.sl ⟨5⟩ 2 0 2 (some 2))])], [], 6, (.int .i64 (.negSucc 0)), [], [], [], 16⟩
theorem dM3_94_ok : factB T FFM2 5 1000 1000 37 dM3_94 = true := by kernel_rfl
noncomputable def dM3_95 : Fact := ⟨[(.agg [(.str 4 1768843636), (.sl ⟨5⟩ 2 0 1 none)]), (.agg [(.str 4 1735352684), (.sl ⟨6⟩ 2 0 2 (some 2))])], [], 7, (.int .i64 (.negSucc 0)), [], [], [], 15⟩
theorem dM3_95_ok : factB T FFM2 5 1000 1000 37 dM3_95 = true := by kernel_rfl
noncomputable def dM3_96 : Fact := ⟨[(.agg [(.str 4 1852143732), (.sl ⟨5⟩ 2 0 1 none)]), (.agg [(.str 4 1735352684), (.sl ⟨6⟩ 2 0 2 (some 2))])], [], 7, (.int .i64 (.negSucc 0)), [], [], [], 15⟩
theorem dM3_96_ok : factB T FFM2 5 1000 1000 37 dM3_96 = true := by kernel_rfl
noncomputable def dM3_97 : Fact := ⟨[(.agg [(.str 4 1919904869), (.sl ⟨5⟩ 2 0 1 none)]), (.agg [(.str 4 1735352684), (.sl ⟨6⟩ 2 0 2 (some 2))])], [], 7, (.int .i64 (.negSucc 0)), [], [], [], 15⟩
theorem dM3_97_ok : factB T FFM2 5 1000 1000 37 dM3_97 = true := by kernel_rfl
noncomputable def dM3_98 : Fact := ⟨[(.agg [(.str 4 1953658213), (.sl ⟨5⟩ 2 0 1 none)]), (.agg [(.str 4 1735352684), (.sl ⟨6⟩ 2 0 2 (some 2))])], [], 7, (.int .i64 (.negSucc 0)), [], [], [], 15⟩
theorem dM3_98_ok : factB T FFM2 5 1000 1000 37 dM3_98 = true := by kernel_rfl
noncomputable def dM3_99 : Fact := ⟨[(.agg [(.str 4 1685022067), (.sl ⟨5⟩ 2 0 2 none)]), (.agg [(.str 4 1735352684), (.sl ⟨6⟩ 2 0 2 (some 2))])], [], 7, (.int .i64 (.negSucc 0)), [], [], [], 15⟩
theorem dM3_99_ok : factB T FFM2 5 1000 1000 37 dM3_99 = true := by kernel_rfl
noncomputable def dM3_100 : Fact := ⟨[(.agg [(.str 4 1735352684), (.sl ⟨5⟩ 2 0 2 none)]), (.agg [(.str 4 1735352684), (.sl ⟨6⟩ 2 0 2 (some 2))])], [(5, .blk false 4 [(.str 1 120), .nils, (.str 3 3223600), .nils]), (6, .blk false 4 [(.str 1 120), .nils, (.str 3 3223600), .nils])], 7, (.int .i64 (.ofNat 0)), [], [5, 6], [], 35⟩
theorem dM3_100_ok : factB T FFM2 5 1000 1000 37 dM3_100 = true := by kernel_rfl
noncomputable def dM3_101 : Fact := ⟨[(.agg [(.str 8 8387235695293260140), .nils]), (.agg [(.str 4 1768843636), (.sl ⟨5⟩ 2 0 1 (some 1))])], [], 6, (.int .i64 (.negSucc 0)), [], [], [], 16⟩
theorem dM3_101_ok : factB T FFM2 5 1000 1000 37 dM3_101 = true := by kernel_rfl
noncomputable def dM3_102 : Fact := ⟨[(.agg [(.str 4 1768843636), (.sl ⟨5⟩ 2 0 1 none)]), (.agg [(.str 4 1768843636), (.sl ⟨6⟩ 2 0 1 (some 1))])], [(5, .blk false 2 [(.str 2 28526), .nils]), (6, .blk false 2 [(.str 3 7300710), .nils])], 7, (.int .i64 (.ofNat 1)), [], [5, 6], [], 27⟩
theorem dM3_102_ok : factB T FFM2 5 1000 1000 37 dM3_102 = true := by kernel_rfl
noncomputable def dM3_103 : Fact := ⟨[(.agg [(.str 4 1852143732), (.sl ⟨5⟩ 2 0 1 none)]), (.agg [(.str 4 1768843636), (.sl ⟨6⟩ 2 0 1 (some 1))])], [], 7, (.int .i64 (.ofNat 1)), [], [], [], 15⟩
theorem dM3_103_ok : factB T FFM2 5 1000 1000 37 dM3_103 = true := by kernel_rfl
noncomputable def dM3_104 : Fact := ⟨[(.agg [(.str 4 1919904869), (.sl ⟨5⟩ 2 0 1 none)]), (.agg [(.str 4 1768843636), (.sl ⟨6⟩ 2 0 1 (some 1))])], [], 7, (.int .i64 (.ofNat 1)), [], [], [], 15⟩
theorem dM3_104_ok : factB T FFM2 5 1000 1000 37 dM3_104 = true := by kernel_rfl
noncomputable def dM3_105 : Fact := ⟨[(.agg [(.str 4 1953658213), (.sl ⟨5⟩ 2 0 1 none)]), (.agg [(.str 4 1768843636), (.sl ⟨6⟩ 2 0 1 (some 1))])], [], 7, (.int .i64 (.ofNat 1)), [], [], [], 15⟩
theorem dM3_105_ok : factB T FFM2 5 1000 1000 37 dM3_105 = true := by kernel_rfl
noncomputable def dM3_106 : Fact := ⟨[(.agg [(.str 4 1685022067), (.sl ⟨5⟩ 2 0 2 none)]), (.agg [(.str 4 1768843636), (.sl ⟨6⟩ 2 0 1 (some 1))])], [], 7, (.int .i64 (.ofNat 1)), [], [], [], 15⟩
theorem dM3_106_ok : factB T FFM2 5 1000 1000 37 dM3_106 = true := by kernel_rfl
noncomputable def dM3_107 : Fact := ⟨[(.agg [(.str 4 1735352684), (.sl ⟨5⟩ 2 0 2 none)]), (.agg [(.str 4 1768843636), (.sl ⟨6⟩ 2 0 1 (some 1))])], [], 7, (.int .i64 (.ofNat 1)), [], [], [], 15⟩
theorem dM3_107_ok : factB T FFM2 5 1000 1000 37 dM3_107 = true := by kernel_rfl
noncomputable def dM3_108 : Fact := ⟨[(.agg [(.str 5 465557741932), (.sl ⟨5⟩ 2 0 2 none)]), (.agg [(.str 4 1768843636), (.sl ⟨6⟩ 2 0 1 (some 1))])], [], 7, (.int .i64 (.ofNat 1)), [], [], [], 15⟩
theorem dM3_108_ok : factB T FFM2 5 1000 1000 37 dM3_108 = true := by kernel_rfl
noncomputable def dM3_109 : Fact := ⟨[(.agg [(.str 4 1768843636), (.sl ⟨5⟩ 2 0 1 none)]), (.agg [(.str 4 1768843636), (.sl ⟨6⟩ 2 0 1 (some 1))])], [(5, .blk false 2 [(.str 2 28526), .nils]), (6, .blk false 2 [(.str 2 28526), .nils])], 7, (.int .i64 (.ofNat 0)), [], [5, 6], [], 27⟩
theorem dM3_109_ok : factB T FFM2 5 1000 1000 37 dM3_109 = true := by kernel_rfl
noncomputable def FFM3 : Nat → Option FC := ovl T 5 37 fe37 [dM3_0, dM3_1, dM3_2, dM3_3, dM3_4, dM3_5, dM3_6, dM3_7, dM3_8, dM3_9, dM3_10, dM3_11, dM3_12, dM3_13, dM3_14, dM3_15, dM3_16, dM3_17, dM3_18, dM3_19, dM3_20, dM3_21, dM3_22, dM3_23, dM3_24, dM3_25, dM3_26, dM3_27, dM3_28, dM3_29, dM3_30, dM3_31, dM3_32, dM3_33, dM3_34, dM3_35, dM3_36, dM3_37, dM3_38, dM3_39, dM3_40, dM3_41, dM3_42, dM3_43, dM3_44, dM3_45, dM3_46, dM3_47, dM3_48, dM3_49, dM3_50, dM3_51, dM3_52, dM3_53, dM3_54, dM3_55, dM3_56, dM3_57, dM3_58, dM3_59, dM3_60, dM3_61, dM3_62, dM3_63, dM3_64, dM3_65, dM3_66, dM3_67, dM3_68, dM3_69, dM3_70, dM3_71, dM3_72, dM3_73, dM3_74, dM3_75, dM3_76, dM3_77, dM3_78, dM3_79, dM3_80, dM3_81, dM3_82, dM3_83, dM3_84, dM3_85, dM3_86, dM3_87, dM3_88, dM3_89, dM3_90, dM3_91, dM3_92, dM3_93, dM3_94, dM3_95, dM3_96, dM3_97, dM3_98, dM3_99, dM3_100, dM3_101, dM3_102, dM3_103, dM3_104, dM3_105, dM3_106, dM3_107, dM3_108, dM3_109] FFM2
theorem hFM3 (w0 : World) : FOKC Tryz.prog T w0 5 FFM3 := ovl_ok (hFM2 w0) (facts_cons (fact_of hT (hFM2 w0) (b37 w0 5) dM3_0_ok) (facts_cons (fact_of hT (hFM2 w0) (b37 w0 5) dM3_1_ok) (facts_cons (fact_of hT (hFM2 w0) (b37 w0 5) dM3_2_ok) (facts_cons (fact_of hT (hFM2 w0) (b37 w0 5) dM3_3_ok) (facts_cons (fact_of hT (hFM2 w0) (b37 w0 5) dM3_4_ok) (facts_cons (fact_of hT (hFM2 w0) (b37 w0 5) dM3_5_ok) (facts_cons (fact_of hT (hFM2 w0) (b37 w0 5) dM3_6_ok) (facts_cons (fact_of hT (hFM2 w0) (b37 w0 5) dM3_7_ok) (facts_cons (fact_of hT (hFM2 w0) (b37 w0 5) dM3_8_ok) (facts_cons (fact_of hT (hFM2 w0) (b37 w0 5) dM3_9_ok) (facts_cons (fact_of hT (hFM2 w0) (b37 w0 5) dM3_10_ok) (facts_cons (fact_of hT (hFM2 w0) (b37 w0 5) dM3_11_ok) (facts_cons (fact_of hT (hFM2 w0) (b37 w0 5) dM3_12_ok) (facts_cons (fact_of hT (hFM2 w0) (b37 w0 5) dM3_13_ok) (facts_cons (fact_of hT (hFM2 w0) (b37 w0 5) dM3_14_ok) (facts_cons (fact_of hT (hFM2 w0) (b37 w0 5) dM3_15_ok) (facts_cons (fact_of hT (hFM2 w0) (b37 w0 5) dM3_16_ok) (facts_cons (fact_of hT (hFM2 w0) (b37 w0 5) dM3_17_ok) (facts_cons (fact_of hT (hFM2 w0) (b37 w0 5) dM3_18_ok) (facts_cons (fact_of hT (hFM2 w0) (b37 w0 5) dM3_19_ok) (facts_cons (fact_of hT (hFM2 w0) (b37 w0 5) dM3_20_ok) (facts_cons (fact_of hT (hFM2 w0) (b37 w0 5) dM3_21_ok) (facts_cons (fact_of hT (hFM2 w0) (b37 w0 5) dM3_22_ok) (facts_cons (fact_of hT (hFM2 w0) (b37 w0 5) dM3_23_ok) (facts_cons (fact_of hT (hFM2 w0) (b37 w0 5) dM3_24_ok) (facts_cons (fact_of hT (hFM2 w0) (b37 w0 5) dM3_25_ok) (facts_cons (fact_of hT (hFM2 w0) (b37 w0 5) dM3_26_ok) (facts_cons (fact_of hT (hFM2 w0) (b37 w0 5) dM3_27_ok) (facts_cons (fact_of hT (hFM2 w0) (b37 w0 5) dM3_28_ok) (facts_cons (fact_of hT (hFM2 w0) (b37 w0 5) dM3_29_ok) (facts_cons (fact_of hT (hFM2 w0) (b37 w0 5) dM3_30_ok) (facts_cons (fact_of hT (hFM2 w0) (b37 w0 5) dM3_31_ok) (facts_cons (fact_of hT (hFM2 w0) (b37 w0 5) dM3_32_ok) (facts_cons (fact_of hT (hFM2 w0) (b37 w0 5) dM3_33_ok) (facts_cons (fact_of hT (hFM2 w0) (b37 w0 5) dM3_34_ok) (facts_cons (fact_of hT (hFM2 w0) (b37 w0 5) dM3_35_ok) (facts_cons (fact_of hT (hFM2 w0) (b37 w0 5) dM3_36_ok) (facts_cons (fact_of hT (hFM2 w0) (b37 w0 5) dM3_37_ok) (facts_cons (fact_of hT (hFM2 w0) (b37 w0 5) dM3_38_ok) (facts_cons (fact_of hT (hFM2 w0) (b37 w0 5) dM3_39_ok) (facts_cons (fact_of hT (hFM2 w0) (b37 w0 5) dM3_40_ok) (facts_cons (fact_of hT (hFM2 w0) (b37 w0 5) dM3_41_ok) (facts_cons (fact_of hT (hFM2 w0) (b37 w0 5) dM3_42_ok) (facts_cons (fact_of hT (hFM2 w0) (b37 w0 5) dM3_43_ok) (facts_cons (fact_of hT (hFM2 w0) (b37 w0 5) dM3_44_ok) (facts_cons (fact_of hT (hFM2 w0) (b37 w0 5) dM3_45_ok) (facts_cons (fact_of hT (hFM2 w0) (b37 w0 5) dM3_46_ok) (facts_cons (fact_of hT (hFM2 w0) (b37 w0 5) dM3_47_ok) (facts_cons (fact_of hT (hFM2 w0) (b37 w0 5) dM3_48_ok) (facts_cons (fact_of hT (hFM2 w0) (b37 w0 5) dM3_49_ok) (facts_cons (fact_of hT (hFM2 w0) (b37 w0 5) dM3_50_ok) (facts_cons (fact_of hT (hFM2 w0) (b37 w0 5) dM3_51_ok) (facts_cons (fact_of hT (hFM2 w0) (b37 w0 5) dM3_52_ok) (facts_cons (fact_of hT (hFM2 w0) (b37 w0 5) dM3_53_ok) (facts_cons (fact_of hT (hFM2 w0) (b37 w0 5) dM3_54_ok) (facts_cons (fact_of hT (hFM2 w0) (b37 w0 5) dM3_55_ok) (facts_cons (fact_of hT (hFM2 w0) (b37 w0 5) dM3_56_ok) (facts_cons (fact_of hT (hFM2 w0) (b37 w0 5) dM3_57_ok) (facts_cons (fact_of hT (hFM2 w0) (b37 w0 5) dM3_58_ok) (facts_cons (fact_of hT (hFM2 w0) (b37 w0 5) dM3_59_ok) (facts_cons (fact_of hT (hFM2 w0) (b37 w0 5) dM3_60_ok) (facts_cons (fact_of hT (hFM2 w0) (b37 w0 5) dM3_61_ok) (facts_cons (fact_of hT (hFM2 w0) (b37 w0 5) dM3_62_ok) (facts_cons (fact_of hT (hFM2 w0) (b37 w0 5) dM3_63_ok) (facts_cons (fact_of hT (hFM2 w0) (b37 w0 5) dM3_64_ok) (facts_cons (fact_of hT (hFM2 w0) (b37 w0 5) dM3_65_ok) (facts_cons (fact_of hT (hFM2 w0) (b37 w0 5) dM3_66_ok) (facts_cons (fact_of hT (hFM2 w0) (b37 w0 5) dM3_67_ok) (facts_cons (fact_of hT (hFM2 w0) (b37 w0 5) dM3_68_ok) (facts_cons (fact_of hT (hFM2 w0) (b37 w0 5) dM3_69_ok) (facts_cons (fact_of hT (hFM2 w0) (b37 w0 5) dM3_70_ok) (facts_cons (fact_of hT (hFM2 w0) (b37 w0 5) dM3_71_ok) (facts_cons (fact_of hT (hFM2 w0) (b37 w0 5) dM3_72_ok) (facts_cons (fact_of hT (hFM2 w0) (b37 w0 5) dM3_73_ok) (facts_cons (fact_of hT (hFM2 w0) (b37 w0 5) dM3_74_ok) (facts_cons (fact_of hT (hFM2 w0) (b37 w0 5) dM3_75_ok) (facts_cons (fact_of hT (hFM2 w0) (b37 w0 5) dM3_76_ok) (facts_cons (fact_of hT (hFM2 w0) (b37 w0 5) dM3_77_ok) (facts_cons (fact_of hT (hFM2 w0) (b37 w0 5) dM3_78_ok) (facts_cons (fact_of hT (hFM2 w0) (b37 w0 5) dM3_79_ok) (facts_cons (fact_of hT (hFM2 w0) (b37 w0 5) dM3_80_ok) (facts_cons (fact_of hT (hFM2 w0) (b37 w0 5) dM3_81_ok) (facts_cons (fact_of hT (hFM2 w0) (b37 w0 5) dM3_82_ok) (facts_cons (fact_of hT (hFM2 w0) (b37 w0 5) dM3_83_ok) (facts_cons (fact_of hT (hFM2 w0) (b37 w0 5) dM3_84_ok) (facts_cons (fact_of hT (hFM2 w0) (b37 w0 5) dM3_85_ok) (facts_cons (fact_of hT (hFM2 w0) (b37 w0 5) dM3_86_ok) (facts_cons (fact_of hT (hFM2 w0) (b37 w0 5) dM3_87_ok) (facts_cons (fact_of hT (hFM2 w0) (b37 w0 5) dM3_88_ok) (facts_cons (fact_of hT (hFM2 w0) (b37 w0 5) dM3_89_ok) (facts_cons (fact_of hT (hFM2 w0) (b37 w0 5) dM3_90_ok) (facts_cons (fact_of hT (hFM2 w0) (b37 w0 5) dM3_91_ok) (facts_cons (fact_of hT (hFM2 w0) (b37 w0 5) dM3_92_ok) (facts_cons (fact_of hT (hFM2 w0) (b37 w0 5) dM3_93_ok) (facts_cons (fact_of hT (hFM2 w0) (b37 w0 5) dM3_94_ok) (facts_cons (fact_of hT (hFM2 w0) (b37 w0 5) dM3_95_ok) (facts_cons (fact_of hT (hFM2 w0) (b37 w0 5) dM3_96_ok) (facts_cons (fact_of hT (hFM2 w0) (b37 w0 5) dM3_97_ok) (facts_cons (fact_of hT (hFM2 w0) (b37 w0 5) dM3_98_ok) (facts_cons (fact_of hT (hFM2 w0) (b37 w0 5) dM3_99_ok) (facts_cons (fact_of hT (hFM2 w0) (b37 w0 5) dM3_100_ok) (facts_cons (fact_of hT (hFM2 w0) (b37 w0 5) dM3_101_ok) (facts_cons (fact_of hT (hFM2 w0) (b37 w0 5) dM3_102_ok) (facts_cons (fact_of hT (hFM2 w0) (b37 w0 5) dM3_103_ok) (facts_cons (fact_of hT (hFM2 w0) (b37 w0 5) dM3_104_ok) (facts_cons (fact_of hT (hFM2 w0) (b37 w0 5) dM3_105_ok) (facts_cons (fact_of hT (hFM2 w0) (b37 w0 5) dM3_106_ok) (facts_cons (fact_of hT (hFM2 w0) (b37 w0 5) dM3_107_ok) (facts_cons (fact_of hT (hFM2 w0) (b37 w0 5) dM3_108_ok) (facts_cons (fact_of hT (hFM2 w0) (b37 w0 5) dM3_109_ok) facts_nil)))))))))))))))))))))))))))))))))))))))))))))))))))))))))))))))))))))))))))))))))))))))))))))))))))))))))))))) (b37 w0 5)
end Go.Proofs.YtjjiblgcmdbcoaaGreatDoor

/- Sim: facts of function 164 (gameplayer/ground.Valid). Printed by a program (SimF.lean). -/
namespace Go.Proofs.YtjjiblgcmdbcoaaGreatDoor
open Go Go.Sim

noncomputable def dM4_0 : Fact := ⟨[(.agg [(.sl ⟨5⟩ 2 0 12 none), (.sl ⟨6⟩ 3 0 8 none)])], [(5, .blk false 24 [(.str 8 8387235695293260140), .nils, (.str 4 1768843636), (.sl ⟨7⟩ 2 0 1 none), (.str 4 1852143732), (.sl ⟨8⟩ 2 0 1 none), (.str 4 1852143732), (.sl ⟨9⟩ 2 0 1 none), (.str 4 1919904869), (.sl ⟨10⟩ 2 0 1 none), (.str 4 1953658213), (.sl ⟨11⟩ 2 0 1 none), (.str 4 1953658213), (.sl ⟨12⟩ 2 0 1 none), (.str 4 1685022067), (.sl ⟨13⟩ 2 0 2 none), (.str 4 1685022067), (.sl ⟨14⟩ 2 0 2 none), (.str 4 1735352684), (.sl ⟨15⟩ 2 0 2 none), (.str 5 465557741932), (.sl ⟨16⟩ 2 0 2 none), (.str 5 465557741932), (.sl ⟨17⟩ 2 0 2 none)]), (6, .blk false 24 [(.int .i64 (.ofNat 0)), (.sl ⟨18⟩ 1 0 1 none), .nils, (.int .i64 (.ofNat 1)), .nils, .nils, (.int .i64 (.ofNat 2)), (.sl ⟨19⟩ 1 0 1 none), .nils, (.int .i64 (.ofNat 3)), (.sl ⟨20⟩ 1 0 1 none), .nils, (.int .i64 (.ofNat 4)), .nils, .nils, (.int .i64 (.ofNat 9)), (.sl ⟨21⟩ 1 0 1 none), .nils, (.int .i64 (.ofNat 10)), (.sl ⟨22⟩ 1 0 1 none), .nils, (.int .i64 (.ofNat 11)), (.sl ⟨23⟩ 1 0 1 none), .nils]), (7, .blk false 2 [(.str 2 28526), .nils]), (8, .blk false 2 [(.str 3 7300710), .nils]), (9, .blk false 2 [(.str 2 28526), .nils]), (10, .blk false 2 [(.str 1 120), .nils]), (11, .blk false 2 [(.str 3 7300710), .nils]), (12, .blk false 2 [(.str 2 28526), .nils]), (13, .blk false 4 [(.str 1 120), .nils, (.str 5 465557354085), .nils]), (14, .blk false 4 [(.str 1 120), .nils, (.str 4 1937006969), .nils]), (15, .blk false 4 [(.str 1 120), .nils, (.str 3 3223600), .nils]), (16, .blk false 4 [(.str 1 120), .nils, (.str 5 465557354085), .nils]), (17, .blk false 4 [(.str 1 120), .nils, (.str 4 1937006969), .nils]), (18, .blk false 1 [(.int .i64 (.ofNat 5))]), (19, .blk false 1 [(.int .i64 (.ofNat 7))]), (20, .blk false 1 [(.int .i64 (.ofNat 8))]), (21, .blk false 1 [(.int .i64 (.ofNat 5))]), (22, .blk false 1 [(.int .i64 (.ofNat 6))]), (23, .blk false 1 [(.int .i64 (.ofNat 6))])], 24, (.bool true), [], [5, 6, 7, 8, 9, 10, 11, 12, 13, 14, 15, 16, 17, 18, 19, 20, 21, 22, 23], [], 540⟩
theorem dM4_0_ok : factB T FFM3 5 1000 1000 164 dM4_0 = true := by kernel_rfl
noncomputable def FFM4 : Nat → Option FC := ovl T 5 164 fe164 [dM4_0] FFM3
theorem hFM4 (w0 : World) : FOKC Tryz.prog T w0 5 FFM4 := ovl_ok (hFM3 w0) (facts_cons (fact_of hT (hFM3 w0) (b164 w0 5) dM4_0_ok) facts_nil) (b164 w0 5)
end Go.Proofs.YtjjiblgcmdbcoaaGreatDoor
