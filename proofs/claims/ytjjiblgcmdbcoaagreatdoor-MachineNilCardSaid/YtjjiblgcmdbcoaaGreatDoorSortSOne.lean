/- slices.Sorted at strings, over maps.Keys. -/
import Derived.Test.YtjjiblgcmdbcoaaGreatDoorKeysSOne
import Derived.Shelf.SlIter.Sorted
import Derived.Shelf.SortM.Plain
import Derived.Shelf.SortM.SortNone
import Derived.Shelf.SlGeneric
import Derived.Ground.GgzProg
import Derived.Ground.SlgmProg
set_option linter.unusedVariables false
set_option linter.unusedSimpArgs false
namespace Go.Proofs
open Go.RowKit Go.Maps Go.Sort Go.Shelf Go.Keys

def Tryz.sortedS_ren : Go.Shelf.Ren := ⟨fun | 6 => 234 | 8 => 255 | 9 => 256 | 11 => 276 | 13 => 64 | 12 => 277 | 23 => 94 | 24 => 95 | 14 => 290 | 15 => 291 | 16 => 292 | 17 => 293 | 18 => 294 | 19 => 295 | 20 => 296 | 21 => 297 | 22 => 298 | 25 => 302 | 26 => 133 | 27 => 134 | 28 => 303 | 29 => 304 | 30 => 254 | 31 => 305 | n => n, fun | 26 => 9 | 28 => 301 | 24 => 205 | 0 => 0 | 3 => 3 | 37 => 121 | 48 => 151 | 50 => 153 | 4 => 4 | 40 => 144 | 39 => 143 | 45 => 95 | 5 => 5 | 9 => 9 | 51 => 195 | 55 => 199 | 57 => 258 | 58 => 77 | 33 => 123 | n => n, fun | n => n⟩
theorem Tryz.sortedS : Go.Proofs.SlLaysZ.n6 Tryz.prog Tryz.sortedS_ren := {
  mixed := by kernel_rfl
  f6 := ⟨Tryz.f234.name, by decide, Tryz.func234.trans (congrArg some (by kernel_rfl))⟩
  f8 := ⟨Tryz.f255.name, by decide, Tryz.func255.trans (congrArg some (by kernel_rfl))⟩
  f11 := ⟨Tryz.f276.name, by decide, Tryz.func276.trans (congrArg some (by kernel_rfl))⟩
  t0 := Tryz.underlying0
  a0 := Tryz.isAgg0
  z0 := Tryz.sizeOf0
  v0 := Tryz.zeroValue0
  t24 := Tryz.underlying205
  a24 := Tryz.isAgg205
  z24 := Tryz.sizeOf205
  v24 := Tryz.zeroValue205
  t26 := Tryz.underlying9
  a26 := Tryz.isAgg9
  z26 := Tryz.sizeOf9
  v26 := Tryz.zeroValue9
  t28 := Tryz.underlying301
  a28 := Tryz.isAgg301
  z28 := Tryz.sizeOf301
  v28 := Tryz.zeroValue301
  i26 := by kernel_rfl }

def Tryz.sortS_ren : Go.Shelf.Ren := ⟨fun | 6 => 256 | 8 => 64 | 9 => 277 | 19 => 94 | 20 => 95 | 21 => 290 | 22 => 291 | 23 => 292 | 24 => 293 | 25 => 294 | 26 => 295 | 27 => 296 | 28 => 297 | 29 => 298 | 36 => 302 | 31 => 133 | 32 => 134 | 37 => 303 | 38 => 304 | 39 => 254 | 41 => 305 | n => n, fun | 27 => 205 | 29 => 9 | 3 => 3 | 32 => 121 | 26 => 205 | 0 => 0 | 44 => 151 | 46 => 153 | 4 => 4 | 36 => 144 | 35 => 143 | 41 => 95 | 5 => 5 | 9 => 9 | 53 => 195 | 57 => 199 | 63 => 258 | 64 => 77 | n => n, fun | n => n⟩
theorem Tryz.sortS : Go.Proofs.SlLaysM.n6 Tryz.prog Tryz.sortS_ren := {
  mixed := by kernel_rfl
  f6 := ⟨Tryz.f256.name, by decide, Tryz.func256.trans (congrArg some (by kernel_rfl))⟩
  f8 := Tryz.func64.trans (congrArg some (by kernel_rfl))
  f9 := ⟨Tryz.f277.name, by decide, Tryz.func277.trans (congrArg some (by kernel_rfl))⟩
  f19 := Tryz.func94.trans (congrArg some (by kernel_rfl))
  f20 := Tryz.func95.trans (congrArg some (by kernel_rfl))
  f21 := ⟨Tryz.f290.name, by decide, Tryz.func290.trans (congrArg some (by kernel_rfl))⟩
  f22 := ⟨Tryz.f291.name, by decide, Tryz.func291.trans (congrArg some (by kernel_rfl))⟩
  f23 := ⟨Tryz.f292.name, by decide, Tryz.func292.trans (congrArg some (by kernel_rfl))⟩
  f24 := ⟨Tryz.f293.name, by decide, Tryz.func293.trans (congrArg some (by kernel_rfl))⟩
  f25 := ⟨Tryz.f294.name, by decide, Tryz.func294.trans (congrArg some (by kernel_rfl))⟩
  f26 := ⟨Tryz.f295.name, by decide, Tryz.func295.trans (congrArg some (by kernel_rfl))⟩
  f27 := ⟨Tryz.f296.name, by decide, Tryz.func296.trans (congrArg some (by kernel_rfl))⟩
  f28 := ⟨Tryz.f297.name, by decide, Tryz.func297.trans (congrArg some (by kernel_rfl))⟩
  f29 := ⟨Tryz.f298.name, by decide, Tryz.func298.trans (congrArg some (by kernel_rfl))⟩
  f31 := Tryz.func133.trans (congrArg some (by kernel_rfl))
  f32 := Tryz.func134.trans (congrArg some (by kernel_rfl))
  f36 := ⟨Tryz.f302.name, by decide, Tryz.func302.trans (congrArg some (by kernel_rfl))⟩
  f37 := ⟨Tryz.f303.name, by decide, Tryz.func303.trans (congrArg some (by kernel_rfl))⟩
  f38 := ⟨Tryz.f304.name, by decide, Tryz.func304.trans (congrArg some (by kernel_rfl))⟩
  f39 := ⟨Tryz.f254.name, by decide, Tryz.func254.trans (congrArg some (by kernel_rfl))⟩
  f41 := ⟨Tryz.f305.name, by decide, Tryz.func305.trans (congrArg some (by kernel_rfl))⟩
  t0 := Tryz.underlying0
  a0 := Tryz.isAgg0
  z0 := Tryz.sizeOf0
  v0 := Tryz.zeroValue0
  t3 := Tryz.underlying3
  a3 := Tryz.isAgg3
  z3 := Tryz.sizeOf3
  v3 := Tryz.zeroValue3
  t4 := Tryz.underlying4
  a4 := Tryz.isAgg4
  z4 := Tryz.sizeOf4
  v4 := Tryz.zeroValue4
  t5 := Tryz.underlying5
  a5 := Tryz.isAgg5
  z5 := Tryz.sizeOf5
  v5 := Tryz.zeroValue5
  t9 := Tryz.underlying9
  a9 := Tryz.isAgg9
  z9 := Tryz.sizeOf9
  v9 := Tryz.zeroValue9
  t26 := Tryz.underlying205
  a26 := Tryz.isAgg205
  z26 := Tryz.sizeOf205
  v26 := Tryz.zeroValue205
  t27 := Tryz.underlying205
  a27 := Tryz.isAgg205
  z27 := Tryz.sizeOf205
  v27 := Tryz.zeroValue205
  t29 := Tryz.underlying9
  a29 := Tryz.isAgg9
  z29 := Tryz.sizeOf9
  v29 := Tryz.zeroValue9
  t32 := Tryz.underlying121
  a32 := Tryz.isAgg121
  z32 := Tryz.sizeOf121
  v32 := Tryz.zeroValue121
  t35 := Tryz.underlying143
  a35 := Tryz.isAgg143
  z35 := Tryz.sizeOf143
  v35 := Tryz.zeroValue143
  t36 := Tryz.underlying144
  a36 := Tryz.isAgg144
  z36 := Tryz.sizeOf144
  v36 := Tryz.zeroValue144
  t41 := Tryz.underlying95
  a41 := Tryz.isAgg95
  z41 := Tryz.sizeOf95
  v41 := Tryz.zeroValue95
  t44 := Tryz.underlying151
  a44 := Tryz.isAgg151
  z44 := Tryz.sizeOf151
  v44 := Tryz.zeroValue151
  t46 := Tryz.underlying153
  a46 := Tryz.isAgg153
  z46 := Tryz.sizeOf153
  v46 := Tryz.zeroValue153
  t53 := Tryz.underlying195
  a53 := Tryz.isAgg195
  z53 := Tryz.sizeOf195
  v53 := Tryz.zeroValue195
  t57 := Tryz.underlying199
  a57 := Tryz.isAgg199
  z57 := Tryz.sizeOf199
  v57 := Tryz.zeroValue199
  t63 := Tryz.underlying258
  a63 := Tryz.isAgg258
  z63 := Tryz.sizeOf258
  v63 := Tryz.zeroValue258
  t64 := Tryz.underlying77
  a64 := Tryz.isAgg77
  z64 := Tryz.sizeOf77
  v64 := Tryz.zeroValue77 }

theorem Tryz.sortsS (m : Nat) : AnyZ.SortsIn Tryz.prog Tryz.sortedS_ren Fence.wide m :=
  ⟨fun blk off cap ss W hH hblk hsz => callsIn_wide.2 (AnyM.slices_Sort_string Tryz.sortS blk off cap ss W hH hblk hsz),
   fun p cap W => callsIn_wide.2 (AnyM.slices_Sort_string_none Tryz.sortS p cap W)⟩

theorem Tryz.sortedS_of (p : Addr) (b : Nat) (es : Array MapEntry) (clock : Nat) (kv : Fin es.size → List UInt8) (hkv : ∀ i : Fin es.size, es[i].key = encStr (kv i))
    (hst : (∀ m ∈ es.toList, m.born < clock) ∧ (es.toList.map (·.born)).Nodup) (w : World) (hm : w.cell? p = some (.map (some b))) (hb : w.heap[b]? = some (.map es clock)) (L : List (List UInt8)) (hL : ((List.finRange es.size).map kv).Perm L) (hs : L.Pairwise (· ≤ ·)) (hN : es.size ≤ maxLen) (hNb : es.size * 16 ≤ 140737488355328) :
    Calls Tryz.prog 234 #[.func (.func 257) #[] #[.pointer (some p)]] w fun e w' =>
      ∃ v, e = .returned v ∧ w'.ownsRow w.heap.size 9 1 v L.length (L.map encStr) ∧ Below w.heap.size w w' ∧ (L = [] → v = .slice none 0 0) := by
  have hseq := Tryz.keysS_gives Fence.wide 1 trivial rfl (by omega) p b es clock kv hkv hst w hm hb
  have cS := AnyZ.sorted_in Tryz.sortedS Fence.wide 4 trivial trivial trivial trivial rfl (by omega) (Tryz.sortsS _) (enters_of Tryz.func256 (by kernel_rfl) rfl) 257 #[.pointer (some p)] trivial (enters_of Tryz.func257 (by kernel_rfl) rfl) _ es.size hN hNb w hseq
  refine (callsIn_wide.1 cS).mono ?_
  rintro e w' ⟨v, ss, rfl, ⟨xs, hx, rfl⟩, hrow, hnil, hB⟩
  have h1 : (xs.map kv).Perm L := (hx.map kv).trans hL
  have h2 : ((xs.map kv).mergeSort fun x y => decide (x ≤ y)) = L := by
    have := mergeSort_of_perm h1
    unfold leB at this
    rw [this]
    exact List.mergeSort_of_pairwise (hs.imp fun h => by simpa using h)
  rw [h2, h1.length_eq] at hrow
  exact ⟨v, rfl, hrow, hB, fun h0 => hnil.2 (by rw [h0] at h1; exact h1.eq_nil)⟩
end Go.Proofs
