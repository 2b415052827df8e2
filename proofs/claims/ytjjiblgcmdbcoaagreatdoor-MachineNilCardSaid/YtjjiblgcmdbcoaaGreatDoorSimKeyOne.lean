/- Sim: simplify.key at no further numbers. -/
import Derived.Test.YtjjiblgcmdbcoaaGreatDoorSimW3And
import Derived.Test.YtjjiblgcmdbcoaaGreatDoorKeyCOne
set_option linter.unusedVariables false
set_option linter.unusedSimpArgs false
set_option linter.all false
namespace Go.Sim
open Go Go.RowKit Go.Proofs
open Go.Abs (TE TK SK TOK)

/-- The numeral of a number below a hundred. -/
noncomputable def digK {R : Type} (i : Nat) (K : Nat → Nat → R) : R :=
  ite' (Nat.blt i 10) (K 1 (Nat.add 48 i)) (forceN (Nat.add (Nat.mul (Nat.add 48 (Nat.div i 10)) 256) (Nat.add 48 (Nat.mod i 10))) fun n => K 2 n)
theorem digK_eq {R : Type} {i : Nat} (h : i < 100) (K : Nat → Nat → R) : digK i K = K (Lib.decDigits i).length (valB (Lib.decDigits i)) := by
  unfold digK
  rw [ite'_eq, forceN_eq]
  have u8 : ∀ n, n < 10 → (UInt8.ofNat (48 + n)).toNat = 48 + n := fun n hn => by
    rw [UInt8.toNat_ofNat']; omega
  by_cases h1 : i < 10
  · rw [if_pos (blt_iff.2 h1), Lib.decDigits_one h1]
    have : valB [UInt8.ofNat (48 + i)] = Nat.add 48 i := by
      simp only [valB, List.length_nil, Nat.mul_zero, Nat.pow_zero, Nat.mul_one, Nat.add_zero]
      exact u8 i h1
    rw [this]; rfl
  · rw [if_neg (fun e => h1 (blt_iff.1 e)), Lib.decDigits_two h1 h]
    have : valB [UInt8.ofNat (48 + i / 10), UInt8.ofNat (48 + i % 10)] = Nat.add (Nat.mul (Nat.add 48 (Nat.div i 10)) 256) (Nat.add 48 (Nat.mod i 10)) := by
      simp only [valB, List.length_nil, List.length_cons, Nat.mul_zero, Nat.pow_zero, Nat.mul_one, Nat.add_zero, Nat.zero_add]
      rw [u8 (i / 10) (by omega), u8 (i % 10) (by omega)]
      rfl
    rw [this]; rfl
noncomputable def preKey : Pre := fun args t nx _ =>
  l1 args (fun a => asAgg a (fun cs => l3 cs (fun x y z => asInt x (fun k i => asInt y (fun k' j => ite' (and (Nat.beq (ikN k) 3) (Nat.beq (ikN k') 3)) (isEmp z (fun _ => inB i 100 (fun i => inB j 100 (fun j =>
    digK i fun l n => digK j fun l' n' => forceN (Nat.add (Nat.add l 1) l') fun lz => forceN (Nat.add (Nat.mul (Nat.add (Nat.mul n 256) 32) (Nat.pow 2 (Nat.mul 8 l'))) n') fun nz => .ret (.str lz nz) t nx) (.bad 431)) (.bad 431)) (.bad 432)) (.bad 433)) (.bad 433)) (.bad 433)) (.bad 433)) (.bad 433)) (.bad 433)
section
variable {T : Nat → TE} {w0 : World} {ng : Nat}
theorem preKey_ok (hng : ng ≠ 0) : PreOK Tryz.prog T w0 ng 128 preKey := by
  intro args t nx e v t' nx' h
  have hb : ∀ n, FR.bad n ≠ .ret v t' nx' := fun n h => by cases h
  obtain ⟨a, rfl, h⟩ := l1_ok h (hb _)
  obtain ⟨cs, rfl, h⟩ := asAgg_ok h (hb _)
  obtain ⟨x, y, z, rfl, h⟩ := l3_ok h (hb _)
  obtain ⟨k, i, rfl, h⟩ := asInt_ok h (hb _)
  obtain ⟨k', j, rfl, h⟩ := asInt_ok h (hb _)
  obtain ⟨hk, h⟩ := ite'_ok h (hb _)
  obtain ⟨hk1, hk2⟩ := and_ok hk
  obtain rfl : k = .i64 := ikN_inj (k' := .i64) hk1
  obtain rfl : k' = .i64 := ikN_inj (k' := .i64) hk2
  obtain ⟨hz, h⟩ := isEmp_ok h (hb _)
  obtain ⟨i, rfl, hi, h⟩ := inB_ok h (hb _)
  obtain ⟨j, rfl, hj, h⟩ := inB_ok h (hb _)
  rw [digK_eq hi, digK_eq hj, forceN_eq, forceN_eq] at h
  cases h
  refine .inl (.inl ⟨⟨_, Tryz.func128, by kernel_rfl, rfl⟩, fun g hp w vs hr hs hrv => ?_⟩)
  obtain ⟨u, vs1, rfl, hu, hrv⟩ := hrv.inv
  have := hrv.nil_inv
  subst this
  obtain ⟨q, cap, rfl⟩ : ∃ q cap, u = .agg #[.int .i64 i, .int .i64 j, .slice q 0 cap] := by
    cases hu with
    | agg cs vs q1 q2 q3 =>
      obtain ⟨x, y, zz, rfl⟩ : ∃ x y z, vs = #[x, y, z] := by
        match vs, q1 with
        | ⟨[x, y, z]⟩, _ => exact ⟨x, y, z, rfl⟩
      have h1 := q2 0 _ x rfl rfl
      have h2 := q2 1 _ y rfl rfl
      have h3 := q2 2 _ zz rfl rfl
      cases h1
      cases h2
      rcases hz with rfl | rfl <;> cases h3 <;> exact ⟨_, _, rfl⟩
  refine (Tryz.key0 i j hi hj q cap w).mono ?_
  rintro e w' ⟨rfl, hB⟩
  have st : Step T w0 ng g hp t nx w g hp t nx w' := .idle hr hs ⟨hB.os, hB.tape, hB.output, hB.size, fun e => absurd e hng⟩ hB.block
  refine ⟨g, hp, _, rfl, st, ?_⟩
  have hl := dec_len hi
  have hl' := dec_len hj
  have e1 : Nat.add (Nat.add (Lib.decDigits i).length 1) (Lib.decDigits j).length = (key2 i j).length := by
    show (Lib.decDigits i).length + 1 + (Lib.decDigits j).length = _
    simp [key2]; omega
  have e2 : Nat.add (Nat.mul (Nat.add (Nat.mul (valB (Lib.decDigits i)) 256) 32) (Nat.pow 2 (Nat.mul 8 (Lib.decDigits j).length))) (valB (Lib.decDigits j)) = valB (key2 i j) := by
    unfold key2
    rw [valB_append, valB_append]
    show (valB (Lib.decDigits i) * 256 + 32) * 2 ^ (8 * (Lib.decDigits j).length) + valB (Lib.decDigits j) = _
    have : valB [32] = 32 := by simp [valB]
    rw [this]
    simp
  rw [e1, e2]
  exact .str _ (by simp [key2, maxL]; omega)
end
end Go.Sim
