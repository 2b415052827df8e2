/- simplify.key: a text out of numbers below a hundred. -/
import Derived.Test.YtjjiblgcmdbcoaaGreatDoorProg
import Derived.Shelf.Strings.Builder1
import Derived.Shelf.Strconv.Itoa3
import Derived.Shelf.Abstract
import Derived.Ground.NamesProg
import Derived.WalkKit
import Derived.Deep.RegionHeld3
set_option linter.unusedVariables false
set_option linter.unusedSimpArgs false
namespace Go.Proofs
open Go.RowKit Go.Shelf

def Tryz.lays171_ren : Go.Shelf.Ren := ⟨fun | 171 => 188 | 243 => 227 | 246 => 251 | 283 => 264 | 284 => 265 | 285 => 266 | 286 => 267 | 129 => 95 | 317 => 283 | 318 => 284 | 319 => 285 | 320 => 286 | 337 => 299 | 338 => 300 | n => n, fun | 3 => 3 | 9 => 9 | 2 => 2 | 4 => 4 | 171 => 327 | 0 => 0 | 53 => 153 | 37 => 249 | 5 => 5 | 173 => 329 | 212 => 340 | 51 => 151 | 20 => 20 | 213 => 341 | 46 => 121 | 232 => 352 | 233 => 353 | n => n, fun | 17 => 2 | 18 => 3 | 19 => 4 | n => n⟩
theorem Tryz.lays171 : Go.Proofs.Lays.n171 Tryz.prog Tryz.lays171_ren := {
  mixed := by kernel_rfl
  f129 := Tryz.func95.trans (congrArg some (by kernel_rfl))
  f171 := Tryz.func188.trans (congrArg some (by kernel_rfl))
  f243 := Tryz.func227.trans (congrArg some (by kernel_rfl))
  f246 := Tryz.func251.trans (congrArg some (by kernel_rfl))
  f283 := Tryz.func264.trans (congrArg some (by kernel_rfl))
  f284 := Tryz.func265.trans (congrArg some (by kernel_rfl))
  f285 := Tryz.func266.trans (congrArg some (by kernel_rfl))
  f286 := Tryz.func267.trans (congrArg some (by kernel_rfl))
  f317 := Tryz.func283.trans (congrArg some (by kernel_rfl))
  f318 := Tryz.func284.trans (congrArg some (by kernel_rfl))
  f319 := Tryz.func285.trans (congrArg some (by kernel_rfl))
  f320 := Tryz.func286.trans (congrArg some (by kernel_rfl))
  f337 := Tryz.func299.trans (congrArg some (by kernel_rfl))
  f338 := Tryz.func300.trans (congrArg some (by kernel_rfl))
  t0 := Tryz.underlying0
  a0 := Tryz.isAgg0
  z0 := Tryz.sizeOf0
  v0 := Tryz.zeroValue0
  t2 := Tryz.underlying2
  a2 := Tryz.isAgg2
  z2 := Tryz.sizeOf2
  v2 := Tryz.zeroValue2
  t3 := Tryz.underlying3
  a3 := Tryz.isAgg3
  z3 := Tryz.sizeOf3
  v3 := Tryz.zeroValue3
  t4 := Tryz.underlying4
  a4 := Tryz.isAgg4
  z4 := Tryz.sizeOf4
  v4 := Tryz.zeroValue4
  t5 := Tryz.underlying5
  a5 := Tryz.isAgg5
  z5 := Tryz.sizeOf5
  v5 := Tryz.zeroValue5
  t9 := Tryz.underlying9
  a9 := Tryz.isAgg9
  z9 := Tryz.sizeOf9
  v9 := Tryz.zeroValue9
  t20 := Tryz.underlying20
  a20 := Tryz.isAgg20
  z20 := Tryz.sizeOf20
  v20 := Tryz.zeroValue20
  t37 := Tryz.underlying249
  a37 := Tryz.isAgg249
  z37 := Tryz.sizeOf249
  v37 := Tryz.zeroValue249
  t46 := Tryz.underlying121
  a46 := Tryz.isAgg121
  z46 := Tryz.sizeOf121
  v46 := Tryz.zeroValue121
  t51 := Tryz.underlying151
  a51 := Tryz.isAgg151
  z51 := Tryz.sizeOf151
  v51 := Tryz.zeroValue151
  t53 := Tryz.underlying153
  a53 := Tryz.isAgg153
  z53 := Tryz.sizeOf153
  v53 := Tryz.zeroValue153
  t171 := Tryz.underlying327
  a171 := Tryz.isAgg327
  z171 := Tryz.sizeOf327
  v171 := Tryz.zeroValue327
  t173 := Tryz.underlying329
  a173 := Tryz.isAgg329
  z173 := Tryz.sizeOf329
  v173 := Tryz.zeroValue329
  t212 := Tryz.underlying340
  a212 := Tryz.isAgg340
  z212 := Tryz.sizeOf340
  v212 := Tryz.zeroValue340
  t213 := Tryz.underlying341
  a213 := Tryz.isAgg341
  z213 := Tryz.sizeOf341
  t232 := Tryz.underlying352
  a232 := Tryz.isAgg352
  z232 := Tryz.sizeOf352
  v232 := Tryz.zeroValue352
  t233 := Tryz.underlying353
  a233 := Tryz.isAgg353
  z233 := Tryz.sizeOf353
  v233 := Tryz.zeroValue353
  g17 := by kernel_rfl
  g18 := by kernel_rfl
  g19 := by kernel_rfl }

def Tryz.lays169_ren : Go.Shelf.Ren := ⟨fun | 169 => 189 | n => n, fun | 70 => 248 | 9 => 9 | 0 => 0 | 72 => 251 | 37 => 249 | 127 => 291 | 3 => 3 | 5 => 5 | n => n, fun | n => n⟩
theorem Tryz.lays169 : Go.Proofs.Lays.n169 Tryz.prog Tryz.lays169_ren := {
  mixed := by kernel_rfl
  f169 := Tryz.func189.trans (congrArg some (by kernel_rfl))
  t0 := Tryz.underlying0
  a0 := Tryz.isAgg0
  z0 := Tryz.sizeOf0
  v0 := Tryz.zeroValue0
  t3 := Tryz.underlying3
  a3 := Tryz.isAgg3
  z3 := Tryz.sizeOf3
  v3 := Tryz.zeroValue3
  t9 := Tryz.underlying9
  a9 := Tryz.isAgg9
  z9 := Tryz.sizeOf9
  v9 := Tryz.zeroValue9
  t37 := Tryz.underlying249
  a37 := Tryz.isAgg249
  z37 := Tryz.sizeOf249
  v37 := Tryz.zeroValue249
  t70 := Tryz.underlying248
  a70 := Tryz.isAgg248
  z70 := Tryz.sizeOf248
  v70 := Tryz.zeroValue248
  t72 := Tryz.underlying251
  a72 := Tryz.isAgg251
  z72 := Tryz.sizeOf251
  v72 := Tryz.zeroValue251
  t127 := Tryz.underlying291
  a127 := Tryz.isAgg291
  z127 := Tryz.sizeOf291
  v127 := Tryz.zeroValue291 }

theorem Tryz.builderX169 : Builder.Extra Tryz.prog Tryz.lays169_ren where
  sizeBuilder := by kernel_rfl
  liesBuilder := by kernel_rfl
  t5 := Tryz.underlying5
  a5 := Tryz.isAgg5
  z5 := Tryz.sizeOf5
  v5 := Tryz.zeroValue5
  infoByte := by kernel_rfl
  cellsByte := by kernel_rfl
  sizeByte := by kernel_rfl
  neB5 := by decide

theorem Tryz.itoaS (i : Nat) (hi : i < 100) (w : World) : Calls Tryz.prog 188 #[.int .i64 i] w fun e w' => e = .returned (.string ⟨(Lib.decDigits i).toArray⟩) ∧ w' = w := Any.strconv_Itoa_small Tryz.lays171 i hi w
theorem Tryz.stringS (B b : Nat) (l : List UInt8) (w : World) (h : Lib.IsBuilder 251 5 B b (Lib.byteCells l) w) (h0 : l ≠ []) :
    Calls Tryz.prog 189 #[.pointer (some ⟨b, 0, none⟩)] w fun e w' => e = .returned (.string ⟨l.toArray⟩) ∧ Below B w w' := Any.Builder_String Tryz.lays169 Tryz.builderX169 B b l w h h0

theorem Tryz.sizeBuilder : (Tryz.prog.info? 251).map (·.size) = some 2 := by kernel_rfl
theorem Tryz.infoByteK : (Tryz.prog.info? 5).map (fun i => (i.zero, i.size, i.bytes)) = some (some (.int .u8 0), 1, 1) := by kernel_rfl

set_option maxHeartbeats 1000000 in
set_option maxRecDepth 100000 in
theorem Tryz.copyUsed (b : Nat) (w : World) (h0 : w.cell? ⟨b, 0, none⟩ = some (.pointer (some ⟨b, 0, none⟩))) :
    Calls Tryz.prog 226 #[.pointer (some ⟨b, 0, none⟩)] w fun e w' => e = .returned (.tuple #[]) ∧ w' = w := by
  obtain ⟨j, hj, _⟩ := Option.map_eq_some_iff.1 Tryz.sizeBuilder
  go_enter Tryz.func226, Tryz.ntmps226
  go_wp2
  rw [Lib.run_neq_ptr_same w _ Tryz.underlying248 hj]
  go_wp2
  go_end0
  exact ⟨rfl, rfl⟩

set_option maxHeartbeats 1000000 in
set_option maxRecDepth 100000 in
theorem Tryz.copyFresh (b : Nat) (w : World) (h0 : w.cell? ⟨b, 0, none⟩ = some (.pointer none)) (hsh : w.shape? b = some (251, 2)) (hfz : w.frozen? ⟨b, 0, none⟩ = false) :
    Calls Tryz.prog 226 #[.pointer (some ⟨b, 0, none⟩)] w fun e w' => e = .returned (.tuple #[]) ∧ w' = w.setCell ⟨b, 0, none⟩ (.pointer (some ⟨b, 0, none⟩)) := by
  obtain ⟨j, hj, hjs⟩ := Option.map_eq_some_iff.1 Tryz.sizeBuilder
  go_enter Tryz.func226, Tryz.ntmps226
  go_wp2
  rw [Lib.run_to_unsafe w ⟨b, 0, none⟩ Tryz.underlying248 Tryz.underlying314 hj (by rw [hjs]; decide) hsh (Nat.zero_lt_succ 1)]
  simp only [Result.andThen]
  rw [Oper.upon_value]
  go_wp2
  rw [run_callFunc_extern Tryz.func250 (by kernel_rfl) (by kernel_rfl) (by kernel_rfl) (e := Extern.AbiNoEscape.same) (by kernel_rfl)]
  rw [Lib.run_noEscape]
  simp only [Result.andThen]
  rw [Oper.upon_value]
  go_wp2
  rw [Lib.run_from_unsafe w ⟨b, 0, none⟩ Tryz.underlying314 Tryz.underlying248 hj hsh (by kernel_rfl)]
  simp only [Result.andThen]
  rw [Oper.upon_value]
  go_wp2
  go_end0
  exact ⟨rfl, rfl⟩

theorem Tryz.copyAny (B b : Nat) (bs : List Value) (w : World) (h : Lib.IsBuilder 251 5 B b bs w) :
    Calls Tryz.prog 226 #[.pointer (some ⟨b, 0, none⟩)] w fun e w' => e = .returned (.tuple #[]) ∧ (Lib.BuilderAt 251 5 B b (.pointer (some ⟨b, 0, none⟩)) bs w' ∧ Below B w w') := by
  rcases h with h | h
  · refine (Tryz.copyFresh b w h.cell0 h.shape h.frozen0).mono ?_
    rintro e w' ⟨rfl, rfl⟩
    exact ⟨rfl, h.used _, (Below.refl B w).setCell (p := ⟨b, 0, none⟩) h.1 _⟩
  · refine (Tryz.copyUsed b w h.cell0).mono ?_
    rintro e w' ⟨rfl, rfl⟩
    exact ⟨rfl, h, Below.refl B _⟩

set_option maxHeartbeats 1000000 in
set_option maxRecDepth 100000 in
theorem Tryz.writeS (B b : Nat) (bs : List Value) (s : ByteArray) (w : World) (h : Lib.IsBuilder 251 5 B b bs w) (hlen : bs.length + s.size ≤ 140737488355328) (hBw : B ≤ w.heap.size) :
    Calls Tryz.prog 187 #[.pointer (some ⟨b, 0, none⟩), .string s] w fun e w' => e = .returned (.tuple #[.int .i64 s.size, .nilIface]) ∧ (Lib.BuilderAt 251 5 B b (.pointer (some ⟨b, 0, none⟩)) (bs ++ Lib.strCells s) w' ∧ Below B w w') := by
  obtain ⟨i0, hi, hz0, hz1, hz2⟩ := info_parts Tryz.infoByteK
  have cC := Tryz.copyAny B b bs w h
  go_enter Tryz.func187, Tryz.ntmps187
  go_wp2_with (go_at_call 226; refine cC.mono ?_)
  rintro e w1 ⟨rfl, h1, hb1⟩
  obtain ⟨hB, v, hbk, hown, hne⟩ := h1
  have c0 : w1.cell? ⟨b, 0, none⟩ = some (.pointer (some ⟨b, 0, none⟩)) := by rw [Lib.cell_of_heap hbk]; rfl
  have c1 : w1.cell? ⟨b, 1, none⟩ = some v := by rw [Lib.cell_of_heap hbk]; rfl
  go_wp2_with (at_builtin; refine Lib.wpList_append_own_string _ rfl _ _ 249 9 rfl B 5 i0 Tryz.underlying249 Tryz.underlying9 hi hz0 hz1 hz2 _ _ _ rfl hown s rfl ?c3 ?c4 ?c5 ?_)
  case c3 => unfold maxLen; omega
  case c4 => omega
  case c5 => have := hb1.size; omega
  intro v' w2 hown' hgrow _
  have hlt : b < w1.heap.size := (Array.getElem?_eq_some_iff.1 hbk).1
  have hb2 : w2.heap[b]? = some (.cells #[.pointer (some ⟨b, 0, none⟩), v] 251 (0, 0)) := by
    rw [hgrow.block b hlt (fun e => hne e.symm)]
    exact hbk
  have d0 : w2.cell? ⟨b, 0, none⟩ = some (.pointer (some ⟨b, 0, none⟩)) := by rw [Lib.cell_of_heap hb2]; rfl
  have d1 : w2.cell? ⟨b, 1, none⟩ = some v := by rw [Lib.cell_of_heap hb2]; rfl
  have f1 : w2.frozen? ⟨b, 1, none⟩ = false := Lib.frozen_of_heap hb2 1
  obtain ⟨ao, n', cap, rfl⟩ : ∃ ao n' cap, v' = .slice ao n' cap := by
    rcases hown'.2 with ⟨hv, _⟩ | ⟨g, cap, cur, hv, _⟩
    · exact ⟨_, _, _, hv⟩
    · exact ⟨_, _, _, hv⟩
  go_wp2
  go_ret2
  refine ⟨rfl, ?_, ?_⟩
  · exact Lib.BuilderAt.put (T := 251) (e := 5) hB hb2 (bs' := bs ++ Lib.strCells s) (by simpa [Lib.strCells_length] using hown') (by decide)
  · exact (hb1.grown hgrow (by have := hb1.size; omega) (fun k hk => (hown.lt k hk).1)).setCell (p := ⟨b, 1, none⟩) hB _

theorem dec_len {i : Nat} (h : i < 100) : (Lib.decDigits i).length ≤ 2 := by
  by_cases h1 : i < 10
  · rw [Lib.decDigits_one h1]; simp
  · rw [Lib.decDigits_two h1 h]; simp
theorem str_add {P : Program} (a b : List UInt8) (h : a.length + b.length ≤ 1000) (w : World) : (Op.stringOp .add ⟨a.toArray⟩ ⟨b.toArray⟩).run P w = .ok (.string ⟨(a ++ b).toArray⟩) w := by
  have h1 := run_string_add_sum (P := P) (w := w) ⟨a.toArray⟩ ⟨b.toArray⟩ (by simp [ByteArray.size]; omega)
  rw [h1]
  congr 2
theorem str_bytes (l : List UInt8) : Lib.strCells ⟨l.toArray⟩ = Lib.byteCells l := by
  simp [Lib.strCells, Lib.byteCells]
def key2 (i j : Nat) : List UInt8 := Lib.decDigits i ++ [32] ++ Lib.decDigits j
set_option maxHeartbeats 1000000 in
set_option maxRecDepth 100000 in
theorem Tryz.key0 (i j : Nat) (hi : i < 100) (hj : j < 100) (q : Option Addr) (cap : Nat) (w : World) :
    Calls Tryz.prog 128 #[.agg #[.int .i64 i, .int .i64 j, .slice q 0 cap]] w fun e w' => e = .returned (.string ⟨(key2 i j).toArray⟩) ∧ Below w.heap.size w w' := by
  have cI := Tryz.itoaS i hi
  have cJ := Tryz.itoaS j hj
  obtain ⟨di, hdi⟩ : ∃ di, Lib.decDigits i = di := ⟨_, rfl⟩
  obtain ⟨dj, hdj⟩ : ∃ dj, Lib.decDigits j = dj := ⟨_, rfl⟩
  have hli : di.length ≤ 2 := by rw [← hdi]; exact dec_len hi
  have hlj : dj.length ≤ 2 := by rw [← hdj]; exact dec_len hj
  have hk2 : key2 i j = di ++ [32] ++ dj := by unfold key2; rw [hdi, hdj]
  rw [hk2]
  rw [hdi] at cI
  rw [hdj] at cJ
  have ad1 : ∀ w, (Op.stringOp .add ⟨di.toArray⟩ ⟨#[32]⟩).run Tryz.prog w = .ok (.string ⟨(di ++ [32]).toArray⟩) w := fun w => str_add _ _ (by simp; omega) w
  have ad2 : ∀ w, (Op.stringOp .add ⟨(di ++ [32]).toArray⟩ ⟨dj.toArray⟩).run Tryz.prog w = .ok (.string ⟨(di ++ [32] ++ dj).toArray⟩) w := fun w => str_add _ _ (by simp; omega) w
  go_enter Tryz.func128, Tryz.ntmps128
  go_wp2
  obtain ⟨W0, hW0⟩ : ∃ W0, (w.alloc (.cells #[.int .i64 i, .int .i64 j, .slice q 0 cap] 73)).alloc (.cells #[.pointer none, .slice none 0 0] 251) = W0 := ⟨_, rfl⟩
  have hB0 : Below w.heap.size w W0 := by rw [← hW0]; exact ((Below.refl _ w).alloc (Nat.le_refl _) _).alloc (by simp) _
  have hs0 : W0.heap.size = w.heap.size + 2 := by rw [← hW0]; simp
  have hbx : W0.heap[w.heap.size]? = some (.cells #[.int .i64 i, .int .i64 j, .slice q 0 cap] 73 (0, 0)) := by rw [← hW0]; exact (Below.heap_alloc _ _ _ (by simp)).trans (heap_alloc_new w _)
  have hbl : W0.heap[w.heap.size + 1]? = some (.cells #[.pointer none, .slice none 0 0] 251 (0, 0)) := by rw [← hW0]; have := heap_alloc_new (w.alloc (.cells #[.int .i64 i, .int .i64 j, .slice q 0 cap] 73)) (.cells #[.pointer none, .slice none 0 0] 251); rwa [World.size_alloc] at this
  rw [hW0]
  have l0 : W0.cell? ⟨w.heap.size, 0, none⟩ = some (.int .i64 i) := by simp [World.cell?, hbx]
  have l1 : W0.cell? ⟨w.heap.size, 1, none⟩ = some (.int .i64 j) := by simp [World.cell?, hbx]
  have cW : ∀ (s : ByteArray) (W : World), W.heap = W0.heap → s.size ≤ 1000000 → Calls Tryz.prog 187 #[.pointer (some ⟨w.heap.size + 1, 0, none⟩), .string s] W fun e w' => e = .returned (.tuple #[.int .i64 s.size, .nilIface]) ∧ (Lib.BuilderAt 251 5 (w.heap.size + 1) (w.heap.size + 1) (.pointer (some ⟨w.heap.size + 1, 0, none⟩)) ([] ++ Lib.strCells s) w' ∧ Below (w.heap.size + 1) W w') := fun s W hW hs =>
    Tryz.writeS _ _ [] s W (.inl ⟨Nat.le_refl _, .slice none 0 0, by rw [hW]; exact hbl, ⟨rfl, .inl ⟨rfl, rfl⟩⟩, by simp [Value.ownBlock]⟩) (by simp; omega) (by rw [hW, hs0]; omega)
  clear hW0
  go_region_held3 (fun w' => w'.cell? ⟨w.heap.size, 0, none⟩ = some (.int .i64 i) ∧ w'.cell? ⟨w.heap.size, 1, none⟩ = some (.int .i64 j)) (go_keep)
    (first
      | (go_at_call 188; first | (refine (cI _).mono ?_; rintro e w' ⟨rfl, rfl⟩) | (refine (cJ _).mono ?_; rintro e w' ⟨rfl, rfl⟩))
      | (go_at_call 187; refine (cW _ W0.drew rfl (by simp [ByteArray.size]; omega)).mono ?_; rintro e w1 ⟨rfl, h1, hb1⟩; have m0 : w1.cell? ⟨w.heap.size, 0, none⟩ = some (.int .i64 i) := (hb1.cell (p := ⟨w.heap.size, 0, none⟩) (Nat.lt_succ_self _)).trans l0; have m1 : w1.cell? ⟨w.heap.size, 1, none⟩ = some (.int .i64 j) := (hb1.cell (p := ⟨w.heap.size, 1, none⟩) (Nat.lt_succ_self _)).trans l1))
  have hb1' : Below (w.heap.size + 1) W0 w1 := ⟨hb1.os, hb1.tape, hb1.output, hb1.size, hb1.block⟩
  have hbx1 : w1.heap[w.heap.size]? = some (.cells #[.int .i64 i, .int .i64 j, .slice q 0 cap] 73 (0, 0)) := (hb1'.block _ (by omega)).trans hbx
  have l2 : w1.cell? ⟨w.heap.size, 2, none⟩ = some (.slice q 0 cap) := by simp [World.cell?, hbx1]
  have cS := Tryz.stringS (w.heap.size + 1) (w.heap.size + 1) (di ++ 32 :: dj) w1 (.inr (by simpa [str_bytes] using h1)) (by simp)
  have hlb : Below w.heap.size w w1 := hB0.trans (hb1'.mono (by omega))
  clear cI cJ cW ad1 ad2 h1 hb1 hb1' hB0 hbx hbl hbx1
  go_wp2
  refine wp_loop_rounds 1 ?_
  rw [rounds_succ]
  go_wp2_with (go_at_call 189; refine cS.mono ?_; rintro e w2 ⟨rfl, hb2⟩)
  go_ret
  exact ⟨by simp, hlb.trans (hb2.mono (by omega))⟩
end Go.Proofs
