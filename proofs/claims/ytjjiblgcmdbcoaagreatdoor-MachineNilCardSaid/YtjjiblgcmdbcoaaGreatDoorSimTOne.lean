/- Sim: keys and tries, made for evaluation by the kernel. (Printed by a program, gent.py.) -/
import Derived.Test.YtjjiblgcmdbcoaaGreatDoorAbsO4One
set_option linter.unusedVariables false
set_option linter.unusedSimpArgs false
namespace Go.Sim

structure B where
  n : Nat
  deriving Inhabited, DecidableEq
/-- Eight of a kind. -/
structure N8 (α : Type) where

  a : α
  b : α
  c : α
  d : α
  e : α
  f : α
  g : α
  h : α
/-- A place in a larger thing: read, written (lazily), written (at once). -/
structure Ln (S A : Type) where
  get : S → A
  put : S → A → S
structure Lw (S A R : Type) where
  set : S → A → (S → R) → R
def Ln.id (A : Type) : Ln A A := ⟨fun t => t, fun _ v => v⟩
def Lw.id (A R : Type) : Lw A A R := ⟨fun _ v K => K v⟩

/-- A place in one of eight. -/
noncomputable def ln8 {S A : Type} (l : Ln S A) (i : Nat) : Ln (N8 S) A :=
  Bool.rec (motive := fun _ => Ln (N8 S) A) (Bool.rec (motive := fun _ => Ln (N8 S) A) (Bool.rec (motive := fun _ => Ln (N8 S) A) (Bool.rec (motive := fun _ => Ln (N8 S) A) (Bool.rec (motive := fun _ => Ln (N8 S) A) (Bool.rec (motive := fun _ => Ln (N8 S) A) (Bool.rec (motive := fun _ => Ln (N8 S) A) (⟨fun t => l.get t.h, fun t v => ⟨t.a, t.b, t.c, t.d, t.e, t.f, t.g, l.put t.h v⟩⟩)
  ⟨fun t => l.get t.g, fun t v => ⟨t.a, t.b, t.c, t.d, t.e, t.f, l.put t.g v, t.h⟩⟩ (Nat.beq i 6))
  ⟨fun t => l.get t.f, fun t v => ⟨t.a, t.b, t.c, t.d, t.e, l.put t.f v, t.g, t.h⟩⟩ (Nat.beq i 5))
  ⟨fun t => l.get t.e, fun t v => ⟨t.a, t.b, t.c, t.d, l.put t.e v, t.f, t.g, t.h⟩⟩ (Nat.beq i 4))
  ⟨fun t => l.get t.d, fun t v => ⟨t.a, t.b, t.c, l.put t.d v, t.e, t.f, t.g, t.h⟩⟩ (Nat.beq i 3))
  ⟨fun t => l.get t.c, fun t v => ⟨t.a, t.b, l.put t.c v, t.d, t.e, t.f, t.g, t.h⟩⟩ (Nat.beq i 2))
  ⟨fun t => l.get t.b, fun t v => ⟨t.a, l.put t.b v, t.c, t.d, t.e, t.f, t.g, t.h⟩⟩ (Nat.beq i 1))
  ⟨fun t => l.get t.a, fun t v => ⟨l.put t.a v, t.b, t.c, t.d, t.e, t.f, t.g, t.h⟩⟩ (Nat.beq i 0)
noncomputable def lk8 {S A R : Type} (l : Lw S A R) (i : Nat) : Lw (N8 S) A R :=
  Bool.rec (motive := fun _ => Lw (N8 S) A R) (Bool.rec (motive := fun _ => Lw (N8 S) A R) (Bool.rec (motive := fun _ => Lw (N8 S) A R) (Bool.rec (motive := fun _ => Lw (N8 S) A R) (Bool.rec (motive := fun _ => Lw (N8 S) A R) (Bool.rec (motive := fun _ => Lw (N8 S) A R) (Bool.rec (motive := fun _ => Lw (N8 S) A R) (⟨fun t v K => N8.rec (motive := fun _ => A → (N8 S → R) → R) (fun a b c d e f g h v K => l.set h v fun x => K ⟨a, b, c, d, e, f, g, x⟩) t v K⟩)
  ⟨fun t v K => N8.rec (motive := fun _ => A → (N8 S → R) → R) (fun a b c d e f g h v K => l.set g v fun x => K ⟨a, b, c, d, e, f, x, h⟩) t v K⟩ (Nat.beq i 6))
  ⟨fun t v K => N8.rec (motive := fun _ => A → (N8 S → R) → R) (fun a b c d e f g h v K => l.set f v fun x => K ⟨a, b, c, d, e, x, g, h⟩) t v K⟩ (Nat.beq i 5))
  ⟨fun t v K => N8.rec (motive := fun _ => A → (N8 S → R) → R) (fun a b c d e f g h v K => l.set e v fun x => K ⟨a, b, c, d, x, f, g, h⟩) t v K⟩ (Nat.beq i 4))
  ⟨fun t v K => N8.rec (motive := fun _ => A → (N8 S → R) → R) (fun a b c d e f g h v K => l.set d v fun x => K ⟨a, b, c, x, e, f, g, h⟩) t v K⟩ (Nat.beq i 3))
  ⟨fun t v K => N8.rec (motive := fun _ => A → (N8 S → R) → R) (fun a b c d e f g h v K => l.set c v fun x => K ⟨a, b, x, d, e, f, g, h⟩) t v K⟩ (Nat.beq i 2))
  ⟨fun t v K => N8.rec (motive := fun _ => A → (N8 S → R) → R) (fun a b c d e f g h v K => l.set b v fun x => K ⟨a, x, c, d, e, f, g, h⟩) t v K⟩ (Nat.beq i 1))
  ⟨fun t v K => N8.rec (motive := fun _ => A → (N8 S → R) → R) (fun a b c d e f g h v K => l.set a v fun x => K ⟨x, b, c, d, e, f, g, h⟩) t v K⟩ (Nat.beq i 0)

theorem ln8_cases (i : Nat) : i = 0 ∨ i = 1 ∨ i = 2 ∨ i = 3 ∨ i = 4 ∨ i = 5 ∨ i = 6 ∨ (∃ m, i = m + 7) := by
  rcases i with _ | _ | _ | _ | _ | _ | _ | m
  all_goals simp
structure Ln.Ok {S A : Type} (l : Ln S A) : Prop where
  gp : ∀ t v, l.get (l.put t v) = v
def Ln.Dis {S A B : Type} (l : Ln S A) (l' : Ln S B) : Prop := ∀ t v, l.get (l'.put t v) = l.get t
def Lw.Of {S A R : Type} (k : Lw S A R) (l : Ln S A) : Prop := ∀ t v K, k.set t v K = K (l.put t v)
theorem ok8 {S A : Type} {l : Ln S A} (h : l.Ok) (i : Nat) : (ln8 l i).Ok := by
  rcases ln8_cases i with rfl | rfl | rfl | rfl | rfl | rfl | rfl | ⟨m, rfl⟩ <;> exact ⟨fun t v => h.gp _ v⟩
theorem of8 {S A R : Type} {k : Lw S A R} {l : Ln S A} (h : k.Of l) (i : Nat) : (lk8 k i).Of (ln8 l i) := by
  rcases ln8_cases i with rfl | rfl | rfl | rfl | rfl | rfl | rfl | ⟨m, rfl⟩ <;> exact fun t v K => h _ v _
theorem dis8 {S A B : Type} {l : Ln S A} {l' : Ln S B} (i : Nat) (h : l.Dis l') : (ln8 l i).Dis (ln8 l' i) := by
  rcases ln8_cases i with rfl | rfl | rfl | rfl | rfl | rfl | rfl | ⟨m, rfl⟩ <;> exact fun t v => h _ v
theorem dis8' {S A B : Type} (l : Ln S A) (l' : Ln S B) {i j : Nat} (h : i ≠ j) (hi : i < 8) (hj : j < 8) : (ln8 l i).Dis (ln8 l' j) := by
  rcases ln8_cases i with rfl | rfl | rfl | rfl | rfl | rfl | rfl | ⟨m, rfl⟩ <;> rcases ln8_cases j with rfl | rfl | rfl | rfl | rfl | rfl | rfl | ⟨m', rfl⟩ <;>
    first | exact fun t v => rfl | exact absurd rfl h | omega

/-! levels -/
def Lv (A : Type) : Nat → Type
  | 0 => A
  | k + 1 => N8 (Lv A k)
noncomputable def e8 {S : Type} (x : S) : N8 S := ⟨x, x, x, x, x, x, x, x⟩
noncomputable def lvE {A : Type} (x : A) (k : Nat) : Lv A k := Nat.rec (motive := fun k => Lv A k) x (fun _ ih => e8 ih) k
/-- The place of a number below 8 ^ k. -/
noncomputable def lnL (A : Type) (k : Nat) : Nat → Ln (Lv A k) A :=
  Nat.rec (motive := fun k => Nat → Ln (Lv A k) A) (fun _ => Ln.id A) (fun _ ih n => ln8 (ih (Nat.div n 8)) (Nat.mod n 8)) k
noncomputable def lkL (A R : Type) (k : Nat) : Nat → Lw (Lv A k) A R :=
  Nat.rec (motive := fun k => Nat → Lw (Lv A k) A R) (fun _ => Lw.id A R) (fun _ ih n => lk8 (ih (Nat.div n 8)) (Nat.mod n 8)) k
theorem okL (A : Type) : ∀ k n, (lnL A k n).Ok
  | 0, _ => ⟨fun _ _ => rfl⟩
  | k + 1, n => ok8 (okL A k (n / 8)) (n % 8)
theorem ofL (A R : Type) : ∀ k n, (lkL A R k n).Of (lnL A k n)
  | 0, _ => fun _ _ _ => rfl
  | k + 1, n => of8 (ofL A R k (n / 8)) (n % 8)
theorem disL (A : Type) : ∀ k m n, m ≠ n → m < 8 ^ k → n < 8 ^ k → (lnL A k m).Dis (lnL A k n)
  | 0, m, n, h, hm, hn => by simp at hm hn; omega
  | k + 1, m, n, h, hm, hn => by
    rw [Nat.pow_succ] at hm hn
    show (ln8 (lnL A k (m / 8)) (m % 8)).Dis (ln8 (lnL A k (n / 8)) (n % 8))
    by_cases he : m % 8 = n % 8
    · rw [he]; exact dis8 _ (disL A k _ _ (by omega) (by omega) (by omega))
    · exact dis8' _ _ he (by omega) (by omega)
theorem getE {A : Type} (x : A) : ∀ k n, (lnL A k n).get (lvE x k) = x
  | 0, _ => rfl
  | k + 1, n => by
    show (ln8 (lnL A k (n / 8)) (n % 8)).get (e8 (lvE x k)) = x
    rcases ln8_cases (n % 8) with h | h | h | h | h | h | h | ⟨m, h⟩ <;> rw [h] <;> exact getE x k _

structure Tr (α : Type) where
  n0 : Lv (Option α) 1
  n1 : Lv (Option α) 2
  n2 : Lv (Option α) 3
  n3 : Lv (Option α) 4
  n4 : Lv (Option α) 5
  n5 : Lv (Option α) 6
  n6 : Lv (Option α) 7
  ov : Nat → Option α
noncomputable def Tr.lf {α : Type} : Tr α := ⟨lvE none 1, lvE none 2, lvE none 3, lvE none 4, lvE none 5, lvE none 6, lvE none 7, fun _ => none⟩
noncomputable instance {α : Type} : Inhabited (Tr α) := ⟨.lf⟩
def lnT0 {α : Type} (l : Ln (Lv (Option α) 1) (Option α)) : Ln (Tr α) (Option α) := ⟨fun t => l.get t.n0, fun t v => ⟨l.put t.n0 v, t.n1, t.n2, t.n3, t.n4, t.n5, t.n6, t.ov⟩⟩
noncomputable def lkT0 {α R : Type} (l : Lw (Lv (Option α) 1) (Option α) R) : Lw (Tr α) (Option α) R := ⟨fun t v K => Tr.rec (motive := fun _ => Option α → (Tr α → R) → R) (fun n0 n1 n2 n3 n4 n5 n6 ov v K => l.set n0 v fun x => K ⟨x, n1, n2, n3, n4, n5, n6, ov⟩) t v K⟩
def lnT1 {α : Type} (l : Ln (Lv (Option α) 2) (Option α)) : Ln (Tr α) (Option α) := ⟨fun t => l.get t.n1, fun t v => ⟨t.n0, l.put t.n1 v, t.n2, t.n3, t.n4, t.n5, t.n6, t.ov⟩⟩
noncomputable def lkT1 {α R : Type} (l : Lw (Lv (Option α) 2) (Option α) R) : Lw (Tr α) (Option α) R := ⟨fun t v K => Tr.rec (motive := fun _ => Option α → (Tr α → R) → R) (fun n0 n1 n2 n3 n4 n5 n6 ov v K => l.set n1 v fun x => K ⟨n0, x, n2, n3, n4, n5, n6, ov⟩) t v K⟩
def lnT2 {α : Type} (l : Ln (Lv (Option α) 3) (Option α)) : Ln (Tr α) (Option α) := ⟨fun t => l.get t.n2, fun t v => ⟨t.n0, t.n1, l.put t.n2 v, t.n3, t.n4, t.n5, t.n6, t.ov⟩⟩
noncomputable def lkT2 {α R : Type} (l : Lw (Lv (Option α) 3) (Option α) R) : Lw (Tr α) (Option α) R := ⟨fun t v K => Tr.rec (motive := fun _ => Option α → (Tr α → R) → R) (fun n0 n1 n2 n3 n4 n5 n6 ov v K => l.set n2 v fun x => K ⟨n0, n1, x, n3, n4, n5, n6, ov⟩) t v K⟩
def lnT3 {α : Type} (l : Ln (Lv (Option α) 4) (Option α)) : Ln (Tr α) (Option α) := ⟨fun t => l.get t.n3, fun t v => ⟨t.n0, t.n1, t.n2, l.put t.n3 v, t.n4, t.n5, t.n6, t.ov⟩⟩
noncomputable def lkT3 {α R : Type} (l : Lw (Lv (Option α) 4) (Option α) R) : Lw (Tr α) (Option α) R := ⟨fun t v K => Tr.rec (motive := fun _ => Option α → (Tr α → R) → R) (fun n0 n1 n2 n3 n4 n5 n6 ov v K => l.set n3 v fun x => K ⟨n0, n1, n2, x, n4, n5, n6, ov⟩) t v K⟩
def lnT4 {α : Type} (l : Ln (Lv (Option α) 5) (Option α)) : Ln (Tr α) (Option α) := ⟨fun t => l.get t.n4, fun t v => ⟨t.n0, t.n1, t.n2, t.n3, l.put t.n4 v, t.n5, t.n6, t.ov⟩⟩
noncomputable def lkT4 {α R : Type} (l : Lw (Lv (Option α) 5) (Option α) R) : Lw (Tr α) (Option α) R := ⟨fun t v K => Tr.rec (motive := fun _ => Option α → (Tr α → R) → R) (fun n0 n1 n2 n3 n4 n5 n6 ov v K => l.set n4 v fun x => K ⟨n0, n1, n2, n3, x, n5, n6, ov⟩) t v K⟩
def lnT5 {α : Type} (l : Ln (Lv (Option α) 6) (Option α)) : Ln (Tr α) (Option α) := ⟨fun t => l.get t.n5, fun t v => ⟨t.n0, t.n1, t.n2, t.n3, t.n4, l.put t.n5 v, t.n6, t.ov⟩⟩
noncomputable def lkT5 {α R : Type} (l : Lw (Lv (Option α) 6) (Option α) R) : Lw (Tr α) (Option α) R := ⟨fun t v K => Tr.rec (motive := fun _ => Option α → (Tr α → R) → R) (fun n0 n1 n2 n3 n4 n5 n6 ov v K => l.set n5 v fun x => K ⟨n0, n1, n2, n3, n4, x, n6, ov⟩) t v K⟩
def lnT6 {α : Type} (l : Ln (Lv (Option α) 7) (Option α)) : Ln (Tr α) (Option α) := ⟨fun t => l.get t.n6, fun t v => ⟨t.n0, t.n1, t.n2, t.n3, t.n4, t.n5, l.put t.n6 v, t.ov⟩⟩
noncomputable def lkT6 {α R : Type} (l : Lw (Lv (Option α) 7) (Option α) R) : Lw (Tr α) (Option α) R := ⟨fun t v K => Tr.rec (motive := fun _ => Option α → (Tr α → R) → R) (fun n0 n1 n2 n3 n4 n5 n6 ov v K => l.set n6 v fun x => K ⟨n0, n1, n2, n3, n4, n5, x, ov⟩) t v K⟩
def lnTo {α : Type} (n : Nat) : Ln (Tr α) (Option α) := ⟨fun t => t.ov n, fun t v => ⟨t.n0, t.n1, t.n2, t.n3, t.n4, t.n5, t.n6, fun i => cond (Nat.beq i n) v (t.ov i)⟩⟩
noncomputable def lkTo {α R : Type} (n : Nat) : Lw (Tr α) (Option α) R := ⟨fun t v K => Tr.rec (motive := fun _ => R) (fun n0 n1 n2 n3 n4 n5 n6 ov => K ⟨n0, n1, n2, n3, n4, n5, n6, fun i => cond (Nat.beq i n) v (ov i)⟩) t⟩
/-- The place of a number. -/
noncomputable def lnT (α : Type) (n : Nat) : Ln (Tr α) (Option α) :=
  Bool.rec (motive := fun _ => Ln (Tr α) (Option α)) (Bool.rec (motive := fun _ => Ln (Tr α) (Option α)) (Bool.rec (motive := fun _ => Ln (Tr α) (Option α)) (Bool.rec (motive := fun _ => Ln (Tr α) (Option α)) (Bool.rec (motive := fun _ => Ln (Tr α) (Option α)) (Bool.rec (motive := fun _ => Ln (Tr α) (Option α)) (Bool.rec (motive := fun _ => Ln (Tr α) (Option α)) (lnTo n)
  (lnT6 (lnL (Option α) 7 (Nat.sub n 299592))) (Nat.blt n 2396744))
  (lnT5 (lnL (Option α) 6 (Nat.sub n 37448))) (Nat.blt n 299592))
  (lnT4 (lnL (Option α) 5 (Nat.sub n 4680))) (Nat.blt n 37448))
  (lnT3 (lnL (Option α) 4 (Nat.sub n 584))) (Nat.blt n 4680))
  (lnT2 (lnL (Option α) 3 (Nat.sub n 72))) (Nat.blt n 584))
  (lnT1 (lnL (Option α) 2 (Nat.sub n 8))) (Nat.blt n 72))
  (lnT0 (lnL (Option α) 1 (Nat.sub n 0))) (Nat.blt n 8)
noncomputable def lkT (α R : Type) (n : Nat) : Lw (Tr α) (Option α) R :=
  Bool.rec (motive := fun _ => Lw (Tr α) (Option α) R) (Bool.rec (motive := fun _ => Lw (Tr α) (Option α) R) (Bool.rec (motive := fun _ => Lw (Tr α) (Option α) R) (Bool.rec (motive := fun _ => Lw (Tr α) (Option α) R) (Bool.rec (motive := fun _ => Lw (Tr α) (Option α) R) (Bool.rec (motive := fun _ => Lw (Tr α) (Option α) R) (Bool.rec (motive := fun _ => Lw (Tr α) (Option α) R) (lkTo n)
  (lkT6 (lkL (Option α) R 7 (Nat.sub n 299592))) (Nat.blt n 2396744))
  (lkT5 (lkL (Option α) R 6 (Nat.sub n 37448))) (Nat.blt n 299592))
  (lkT4 (lkL (Option α) R 5 (Nat.sub n 4680))) (Nat.blt n 37448))
  (lkT3 (lkL (Option α) R 4 (Nat.sub n 584))) (Nat.blt n 4680))
  (lkT2 (lkL (Option α) R 3 (Nat.sub n 72))) (Nat.blt n 584))
  (lkT1 (lkL (Option α) R 2 (Nat.sub n 8))) (Nat.blt n 72))
  (lkT0 (lkL (Option α) R 1 (Nat.sub n 0))) (Nat.blt n 8)
/-- Where a number lies. -/
inductive At (α : Type) (n : Nat) : Nat → Prop
  | l0 : 0 ≤ n → n < 8 → lnT α n = lnT0 (lnL (Option α) 1 (n - 0)) → (∀ R, lkT α R n = lkT0 (lkL (Option α) R 1 (n - 0))) → At α n 0
  | l1 : 8 ≤ n → n < 72 → lnT α n = lnT1 (lnL (Option α) 2 (n - 8)) → (∀ R, lkT α R n = lkT1 (lkL (Option α) R 2 (n - 8))) → At α n 1
  | l2 : 72 ≤ n → n < 584 → lnT α n = lnT2 (lnL (Option α) 3 (n - 72)) → (∀ R, lkT α R n = lkT2 (lkL (Option α) R 3 (n - 72))) → At α n 2
  | l3 : 584 ≤ n → n < 4680 → lnT α n = lnT3 (lnL (Option α) 4 (n - 584)) → (∀ R, lkT α R n = lkT3 (lkL (Option α) R 4 (n - 584))) → At α n 3
  | l4 : 4680 ≤ n → n < 37448 → lnT α n = lnT4 (lnL (Option α) 5 (n - 4680)) → (∀ R, lkT α R n = lkT4 (lkL (Option α) R 5 (n - 4680))) → At α n 4
  | l5 : 37448 ≤ n → n < 299592 → lnT α n = lnT5 (lnL (Option α) 6 (n - 37448)) → (∀ R, lkT α R n = lkT5 (lkL (Option α) R 6 (n - 37448))) → At α n 5
  | l6 : 299592 ≤ n → n < 2396744 → lnT α n = lnT6 (lnL (Option α) 7 (n - 299592)) → (∀ R, lkT α R n = lkT6 (lkL (Option α) R 7 (n - 299592))) → At α n 6
  | o : 2396744 ≤ n → lnT α n = lnTo n → (∀ R, lkT α R n = lkTo n) → At α n 7
theorem blt_of {a b : Nat} : Nat.blt a b = true ↔ a < b := ⟨Nat.le_of_ble_eq_true, fun h => Nat.ble_eq_true_of_le h⟩
theorem at_ (α : Type) (n : Nat) : ∃ i, At α n i := by
  cases h0 : Nat.blt n 8 with
  | true => exact ⟨0, .l0 (Nat.zero_le _) (blt_of.1 h0) (by unfold lnT; rw [h0]; rfl) (fun R => by unfold lkT; rw [h0]; rfl)⟩
  | false =>
    cases h1 : Nat.blt n 72 with
    | true => exact ⟨1, .l1 (by have := mt blt_of.2 (by rw [h0]; simp); omega) (blt_of.1 h1) (by unfold lnT; rw [h0, h1]; rfl) (fun R => by unfold lkT; rw [h0, h1]; rfl)⟩
    | false =>
      cases h2 : Nat.blt n 584 with
      | true => exact ⟨2, .l2 (by have := mt blt_of.2 (by rw [h1]; simp); omega) (blt_of.1 h2) (by unfold lnT; rw [h0, h1, h2]; rfl) (fun R => by unfold lkT; rw [h0, h1, h2]; rfl)⟩
      | false =>
        cases h3 : Nat.blt n 4680 with
        | true => exact ⟨3, .l3 (by have := mt blt_of.2 (by rw [h2]; simp); omega) (blt_of.1 h3) (by unfold lnT; rw [h0, h1, h2, h3]; rfl) (fun R => by unfold lkT; rw [h0, h1, h2, h3]; rfl)⟩
        | false =>
          cases h4 : Nat.blt n 37448 with
          | true => exact ⟨4, .l4 (by have := mt blt_of.2 (by rw [h3]; simp); omega) (blt_of.1 h4) (by unfold lnT; rw [h0, h1, h2, h3, h4]; rfl) (fun R => by unfold lkT; rw [h0, h1, h2, h3, h4]; rfl)⟩
          | false =>
            cases h5 : Nat.blt n 299592 with
            | true => exact ⟨5, .l5 (by have := mt blt_of.2 (by rw [h4]; simp); omega) (blt_of.1 h5) (by unfold lnT; rw [h0, h1, h2, h3, h4, h5]; rfl) (fun R => by unfold lkT; rw [h0, h1, h2, h3, h4, h5]; rfl)⟩
            | false =>
              cases h6 : Nat.blt n 2396744 with
              | true => exact ⟨6, .l6 (by have := mt blt_of.2 (by rw [h5]; simp); omega) (blt_of.1 h6) (by unfold lnT; rw [h0, h1, h2, h3, h4, h5, h6]; rfl) (fun R => by unfold lkT; rw [h0, h1, h2, h3, h4, h5, h6]; rfl)⟩
              | false =>
                exact ⟨7, .o (by have := mt blt_of.2 (by rw [h6]; simp); omega) (by unfold lnT; rw [h0, h1, h2, h3, h4, h5, h6]) (fun R => by unfold lkT; rw [h0, h1, h2, h3, h4, h5, h6])⟩
theorem okT0 {α : Type} {l : Ln (Lv (Option α) 1) (Option α)} (h : l.Ok) : (lnT0 l).Ok := ⟨fun t v => h.gp t.n0 v⟩
theorem ofT0 {α R : Type} {k : Lw (Lv (Option α) 1) (Option α) R} {l : Ln (Lv (Option α) 1) (Option α)} (h : k.Of l) : (lkT0 k).Of (lnT0 l) := fun t v K => h t.n0 v _
theorem disT0 {α : Type} {l l' : Ln (Lv (Option α) 1) (Option α)} (h : l.Dis l') : (lnT0 l).Dis (lnT0 l') := fun t v => h t.n0 v
theorem lfT0 {α : Type} {l : Ln (Lv (Option α) 1) (Option α)} (h : l.get (lvE none 1) = none) : (lnT0 l).get .lf = none := h
theorem okT1 {α : Type} {l : Ln (Lv (Option α) 2) (Option α)} (h : l.Ok) : (lnT1 l).Ok := ⟨fun t v => h.gp t.n1 v⟩
theorem ofT1 {α R : Type} {k : Lw (Lv (Option α) 2) (Option α) R} {l : Ln (Lv (Option α) 2) (Option α)} (h : k.Of l) : (lkT1 k).Of (lnT1 l) := fun t v K => h t.n1 v _
theorem disT1 {α : Type} {l l' : Ln (Lv (Option α) 2) (Option α)} (h : l.Dis l') : (lnT1 l).Dis (lnT1 l') := fun t v => h t.n1 v
theorem lfT1 {α : Type} {l : Ln (Lv (Option α) 2) (Option α)} (h : l.get (lvE none 2) = none) : (lnT1 l).get .lf = none := h
theorem okT2 {α : Type} {l : Ln (Lv (Option α) 3) (Option α)} (h : l.Ok) : (lnT2 l).Ok := ⟨fun t v => h.gp t.n2 v⟩
theorem ofT2 {α R : Type} {k : Lw (Lv (Option α) 3) (Option α) R} {l : Ln (Lv (Option α) 3) (Option α)} (h : k.Of l) : (lkT2 k).Of (lnT2 l) := fun t v K => h t.n2 v _
theorem disT2 {α : Type} {l l' : Ln (Lv (Option α) 3) (Option α)} (h : l.Dis l') : (lnT2 l).Dis (lnT2 l') := fun t v => h t.n2 v
theorem lfT2 {α : Type} {l : Ln (Lv (Option α) 3) (Option α)} (h : l.get (lvE none 3) = none) : (lnT2 l).get .lf = none := h
theorem okT3 {α : Type} {l : Ln (Lv (Option α) 4) (Option α)} (h : l.Ok) : (lnT3 l).Ok := ⟨fun t v => h.gp t.n3 v⟩
theorem ofT3 {α R : Type} {k : Lw (Lv (Option α) 4) (Option α) R} {l : Ln (Lv (Option α) 4) (Option α)} (h : k.Of l) : (lkT3 k).Of (lnT3 l) := fun t v K => h t.n3 v _
theorem disT3 {α : Type} {l l' : Ln (Lv (Option α) 4) (Option α)} (h : l.Dis l') : (lnT3 l).Dis (lnT3 l') := fun t v => h t.n3 v
theorem lfT3 {α : Type} {l : Ln (Lv (Option α) 4) (Option α)} (h : l.get (lvE none 4) = none) : (lnT3 l).get .lf = none := h
theorem okT4 {α : Type} {l : Ln (Lv (Option α) 5) (Option α)} (h : l.Ok) : (lnT4 l).Ok := ⟨fun t v => h.gp t.n4 v⟩
theorem ofT4 {α R : Type} {k : Lw (Lv (Option α) 5) (Option α) R} {l : Ln (Lv (Option α) 5) (Option α)} (h : k.Of l) : (lkT4 k).Of (lnT4 l) := fun t v K => h t.n4 v _
theorem disT4 {α : Type} {l l' : Ln (Lv (Option α) 5) (Option α)} (h : l.Dis l') : (lnT4 l).Dis (lnT4 l') := fun t v => h t.n4 v
theorem lfT4 {α : Type} {l : Ln (Lv (Option α) 5) (Option α)} (h : l.get (lvE none 5) = none) : (lnT4 l).get .lf = none := h
theorem okT5 {α : Type} {l : Ln (Lv (Option α) 6) (Option α)} (h : l.Ok) : (lnT5 l).Ok := ⟨fun t v => h.gp t.n5 v⟩
theorem ofT5 {α R : Type} {k : Lw (Lv (Option α) 6) (Option α) R} {l : Ln (Lv (Option α) 6) (Option α)} (h : k.Of l) : (lkT5 k).Of (lnT5 l) := fun t v K => h t.n5 v _
theorem disT5 {α : Type} {l l' : Ln (Lv (Option α) 6) (Option α)} (h : l.Dis l') : (lnT5 l).Dis (lnT5 l') := fun t v => h t.n5 v
theorem lfT5 {α : Type} {l : Ln (Lv (Option α) 6) (Option α)} (h : l.get (lvE none 6) = none) : (lnT5 l).get .lf = none := h
theorem okT6 {α : Type} {l : Ln (Lv (Option α) 7) (Option α)} (h : l.Ok) : (lnT6 l).Ok := ⟨fun t v => h.gp t.n6 v⟩
theorem ofT6 {α R : Type} {k : Lw (Lv (Option α) 7) (Option α) R} {l : Ln (Lv (Option α) 7) (Option α)} (h : k.Of l) : (lkT6 k).Of (lnT6 l) := fun t v K => h t.n6 v _
theorem disT6 {α : Type} {l l' : Ln (Lv (Option α) 7) (Option α)} (h : l.Dis l') : (lnT6 l).Dis (lnT6 l') := fun t v => h t.n6 v
theorem lfT6 {α : Type} {l : Ln (Lv (Option α) 7) (Option α)} (h : l.get (lvE none 7) = none) : (lnT6 l).get .lf = none := h
theorem disT01 {α : Type} {x : Ln (Lv (Option α) 1) (Option α)} {y : Ln (Lv (Option α) 2) (Option α)} : (lnT0 x).Dis (lnT1 y) := fun _ _ => rfl
theorem disT02 {α : Type} {x : Ln (Lv (Option α) 1) (Option α)} {y : Ln (Lv (Option α) 3) (Option α)} : (lnT0 x).Dis (lnT2 y) := fun _ _ => rfl
theorem disT03 {α : Type} {x : Ln (Lv (Option α) 1) (Option α)} {y : Ln (Lv (Option α) 4) (Option α)} : (lnT0 x).Dis (lnT3 y) := fun _ _ => rfl
theorem disT04 {α : Type} {x : Ln (Lv (Option α) 1) (Option α)} {y : Ln (Lv (Option α) 5) (Option α)} : (lnT0 x).Dis (lnT4 y) := fun _ _ => rfl
theorem disT05 {α : Type} {x : Ln (Lv (Option α) 1) (Option α)} {y : Ln (Lv (Option α) 6) (Option α)} : (lnT0 x).Dis (lnT5 y) := fun _ _ => rfl
theorem disT06 {α : Type} {x : Ln (Lv (Option α) 1) (Option α)} {y : Ln (Lv (Option α) 7) (Option α)} : (lnT0 x).Dis (lnT6 y) := fun _ _ => rfl
theorem disT07 {α : Type} {x : Ln (Lv (Option α) 1) (Option α)} {y : Nat} : (lnT0 x).Dis ((lnTo y : Ln (Tr α) (Option α))) := fun _ _ => rfl
theorem disT10 {α : Type} {x : Ln (Lv (Option α) 2) (Option α)} {y : Ln (Lv (Option α) 1) (Option α)} : (lnT1 x).Dis (lnT0 y) := fun _ _ => rfl
theorem disT12 {α : Type} {x : Ln (Lv (Option α) 2) (Option α)} {y : Ln (Lv (Option α) 3) (Option α)} : (lnT1 x).Dis (lnT2 y) := fun _ _ => rfl
theorem disT13 {α : Type} {x : Ln (Lv (Option α) 2) (Option α)} {y : Ln (Lv (Option α) 4) (Option α)} : (lnT1 x).Dis (lnT3 y) := fun _ _ => rfl
theorem disT14 {α : Type} {x : Ln (Lv (Option α) 2) (Option α)} {y : Ln (Lv (Option α) 5) (Option α)} : (lnT1 x).Dis (lnT4 y) := fun _ _ => rfl
theorem disT15 {α : Type} {x : Ln (Lv (Option α) 2) (Option α)} {y : Ln (Lv (Option α) 6) (Option α)} : (lnT1 x).Dis (lnT5 y) := fun _ _ => rfl
theorem disT16 {α : Type} {x : Ln (Lv (Option α) 2) (Option α)} {y : Ln (Lv (Option α) 7) (Option α)} : (lnT1 x).Dis (lnT6 y) := fun _ _ => rfl
theorem disT17 {α : Type} {x : Ln (Lv (Option α) 2) (Option α)} {y : Nat} : (lnT1 x).Dis ((lnTo y : Ln (Tr α) (Option α))) := fun _ _ => rfl
theorem disT20 {α : Type} {x : Ln (Lv (Option α) 3) (Option α)} {y : Ln (Lv (Option α) 1) (Option α)} : (lnT2 x).Dis (lnT0 y) := fun _ _ => rfl
theorem disT21 {α : Type} {x : Ln (Lv (Option α) 3) (Option α)} {y : Ln (Lv (Option α) 2) (Option α)} : (lnT2 x).Dis (lnT1 y) := fun _ _ => rfl
theorem disT23 {α : Type} {x : Ln (Lv (Option α) 3) (Option α)} {y : Ln (Lv (Option α) 4) (Option α)} : (lnT2 x).Dis (lnT3 y) := fun _ _ => rfl
theorem disT24 {α : Type} {x : Ln (Lv (Option α) 3) (Option α)} {y : Ln (Lv (Option α) 5) (Option α)} : (lnT2 x).Dis (lnT4 y) := fun _ _ => rfl
theorem disT25 {α : Type} {x : Ln (Lv (Option α) 3) (Option α)} {y : Ln (Lv (Option α) 6) (Option α)} : (lnT2 x).Dis (lnT5 y) := fun _ _ => rfl
theorem disT26 {α : Type} {x : Ln (Lv (Option α) 3) (Option α)} {y : Ln (Lv (Option α) 7) (Option α)} : (lnT2 x).Dis (lnT6 y) := fun _ _ => rfl
theorem disT27 {α : Type} {x : Ln (Lv (Option α) 3) (Option α)} {y : Nat} : (lnT2 x).Dis ((lnTo y : Ln (Tr α) (Option α))) := fun _ _ => rfl
theorem disT30 {α : Type} {x : Ln (Lv (Option α) 4) (Option α)} {y : Ln (Lv (Option α) 1) (Option α)} : (lnT3 x).Dis (lnT0 y) := fun _ _ => rfl
theorem disT31 {α : Type} {x : Ln (Lv (Option α) 4) (Option α)} {y : Ln (Lv (Option α) 2) (Option α)} : (lnT3 x).Dis (lnT1 y) := fun _ _ => rfl
theorem disT32 {α : Type} {x : Ln (Lv (Option α) 4) (Option α)} {y : Ln (Lv (Option α) 3) (Option α)} : (lnT3 x).Dis (lnT2 y) := fun _ _ => rfl
theorem disT34 {α : Type} {x : Ln (Lv (Option α) 4) (Option α)} {y : Ln (Lv (Option α) 5) (Option α)} : (lnT3 x).Dis (lnT4 y) := fun _ _ => rfl
theorem disT35 {α : Type} {x : Ln (Lv (Option α) 4) (Option α)} {y : Ln (Lv (Option α) 6) (Option α)} : (lnT3 x).Dis (lnT5 y) := fun _ _ => rfl
theorem disT36 {α : Type} {x : Ln (Lv (Option α) 4) (Option α)} {y : Ln (Lv (Option α) 7) (Option α)} : (lnT3 x).Dis (lnT6 y) := fun _ _ => rfl
theorem disT37 {α : Type} {x : Ln (Lv (Option α) 4) (Option α)} {y : Nat} : (lnT3 x).Dis ((lnTo y : Ln (Tr α) (Option α))) := fun _ _ => rfl
theorem disT40 {α : Type} {x : Ln (Lv (Option α) 5) (Option α)} {y : Ln (Lv (Option α) 1) (Option α)} : (lnT4 x).Dis (lnT0 y) := fun _ _ => rfl
theorem disT41 {α : Type} {x : Ln (Lv (Option α) 5) (Option α)} {y : Ln (Lv (Option α) 2) (Option α)} : (lnT4 x).Dis (lnT1 y) := fun _ _ => rfl
theorem disT42 {α : Type} {x : Ln (Lv (Option α) 5) (Option α)} {y : Ln (Lv (Option α) 3) (Option α)} : (lnT4 x).Dis (lnT2 y) := fun _ _ => rfl
theorem disT43 {α : Type} {x : Ln (Lv (Option α) 5) (Option α)} {y : Ln (Lv (Option α) 4) (Option α)} : (lnT4 x).Dis (lnT3 y) := fun _ _ => rfl
theorem disT45 {α : Type} {x : Ln (Lv (Option α) 5) (Option α)} {y : Ln (Lv (Option α) 6) (Option α)} : (lnT4 x).Dis (lnT5 y) := fun _ _ => rfl
theorem disT46 {α : Type} {x : Ln (Lv (Option α) 5) (Option α)} {y : Ln (Lv (Option α) 7) (Option α)} : (lnT4 x).Dis (lnT6 y) := fun _ _ => rfl
theorem disT47 {α : Type} {x : Ln (Lv (Option α) 5) (Option α)} {y : Nat} : (lnT4 x).Dis ((lnTo y : Ln (Tr α) (Option α))) := fun _ _ => rfl
theorem disT50 {α : Type} {x : Ln (Lv (Option α) 6) (Option α)} {y : Ln (Lv (Option α) 1) (Option α)} : (lnT5 x).Dis (lnT0 y) := fun _ _ => rfl
theorem disT51 {α : Type} {x : Ln (Lv (Option α) 6) (Option α)} {y : Ln (Lv (Option α) 2) (Option α)} : (lnT5 x).Dis (lnT1 y) := fun _ _ => rfl
theorem disT52 {α : Type} {x : Ln (Lv (Option α) 6) (Option α)} {y : Ln (Lv (Option α) 3) (Option α)} : (lnT5 x).Dis (lnT2 y) := fun _ _ => rfl
theorem disT53 {α : Type} {x : Ln (Lv (Option α) 6) (Option α)} {y : Ln (Lv (Option α) 4) (Option α)} : (lnT5 x).Dis (lnT3 y) := fun _ _ => rfl
theorem disT54 {α : Type} {x : Ln (Lv (Option α) 6) (Option α)} {y : Ln (Lv (Option α) 5) (Option α)} : (lnT5 x).Dis (lnT4 y) := fun _ _ => rfl
theorem disT56 {α : Type} {x : Ln (Lv (Option α) 6) (Option α)} {y : Ln (Lv (Option α) 7) (Option α)} : (lnT5 x).Dis (lnT6 y) := fun _ _ => rfl
theorem disT57 {α : Type} {x : Ln (Lv (Option α) 6) (Option α)} {y : Nat} : (lnT5 x).Dis ((lnTo y : Ln (Tr α) (Option α))) := fun _ _ => rfl
theorem disT60 {α : Type} {x : Ln (Lv (Option α) 7) (Option α)} {y : Ln (Lv (Option α) 1) (Option α)} : (lnT6 x).Dis (lnT0 y) := fun _ _ => rfl
theorem disT61 {α : Type} {x : Ln (Lv (Option α) 7) (Option α)} {y : Ln (Lv (Option α) 2) (Option α)} : (lnT6 x).Dis (lnT1 y) := fun _ _ => rfl
theorem disT62 {α : Type} {x : Ln (Lv (Option α) 7) (Option α)} {y : Ln (Lv (Option α) 3) (Option α)} : (lnT6 x).Dis (lnT2 y) := fun _ _ => rfl
theorem disT63 {α : Type} {x : Ln (Lv (Option α) 7) (Option α)} {y : Ln (Lv (Option α) 4) (Option α)} : (lnT6 x).Dis (lnT3 y) := fun _ _ => rfl
theorem disT64 {α : Type} {x : Ln (Lv (Option α) 7) (Option α)} {y : Ln (Lv (Option α) 5) (Option α)} : (lnT6 x).Dis (lnT4 y) := fun _ _ => rfl
theorem disT65 {α : Type} {x : Ln (Lv (Option α) 7) (Option α)} {y : Ln (Lv (Option α) 6) (Option α)} : (lnT6 x).Dis (lnT5 y) := fun _ _ => rfl
theorem disT67 {α : Type} {x : Ln (Lv (Option α) 7) (Option α)} {y : Nat} : (lnT6 x).Dis ((lnTo y : Ln (Tr α) (Option α))) := fun _ _ => rfl
theorem disT70 {α : Type} {x : Nat} {y : Ln (Lv (Option α) 1) (Option α)} : ((lnTo x : Ln (Tr α) (Option α))).Dis (lnT0 y) := fun _ _ => rfl
theorem disT71 {α : Type} {x : Nat} {y : Ln (Lv (Option α) 2) (Option α)} : ((lnTo x : Ln (Tr α) (Option α))).Dis (lnT1 y) := fun _ _ => rfl
theorem disT72 {α : Type} {x : Nat} {y : Ln (Lv (Option α) 3) (Option α)} : ((lnTo x : Ln (Tr α) (Option α))).Dis (lnT2 y) := fun _ _ => rfl
theorem disT73 {α : Type} {x : Nat} {y : Ln (Lv (Option α) 4) (Option α)} : ((lnTo x : Ln (Tr α) (Option α))).Dis (lnT3 y) := fun _ _ => rfl
theorem disT74 {α : Type} {x : Nat} {y : Ln (Lv (Option α) 5) (Option α)} : ((lnTo x : Ln (Tr α) (Option α))).Dis (lnT4 y) := fun _ _ => rfl
theorem disT75 {α : Type} {x : Nat} {y : Ln (Lv (Option α) 6) (Option α)} : ((lnTo x : Ln (Tr α) (Option α))).Dis (lnT5 y) := fun _ _ => rfl
theorem disT76 {α : Type} {x : Nat} {y : Ln (Lv (Option α) 7) (Option α)} : ((lnTo x : Ln (Tr α) (Option α))).Dis (lnT6 y) := fun _ _ => rfl
theorem okT (α : Type) (n : Nat) : (lnT α n).Ok := by
  obtain ⟨i, h⟩ := at_ α n
  cases h with
  | l0 _ _ e _ => rw [e]; exact okT0 (okL (Option α) 1 (n - 0))
  | l1 _ _ e _ => rw [e]; exact okT1 (okL (Option α) 2 (n - 8))
  | l2 _ _ e _ => rw [e]; exact okT2 (okL (Option α) 3 (n - 72))
  | l3 _ _ e _ => rw [e]; exact okT3 (okL (Option α) 4 (n - 584))
  | l4 _ _ e _ => rw [e]; exact okT4 (okL (Option α) 5 (n - 4680))
  | l5 _ _ e _ => rw [e]; exact okT5 (okL (Option α) 6 (n - 37448))
  | l6 _ _ e _ => rw [e]; exact okT6 (okL (Option α) 7 (n - 299592))
  | o _ e _ => rw [e]; exact ⟨fun t v => by show cond (Nat.beq n n) v _ = v; rw [Nat.beq_refl]; rfl⟩
theorem ofT (α R : Type) (n : Nat) : (lkT α R n).Of (lnT α n) := by
  obtain ⟨i, h⟩ := at_ α n
  cases h with
  | l0 _ _ e e' => rw [e, e']; exact ofT0 (ofL (Option α) R 1 (n - 0))
  | l1 _ _ e e' => rw [e, e']; exact ofT1 (ofL (Option α) R 2 (n - 8))
  | l2 _ _ e e' => rw [e, e']; exact ofT2 (ofL (Option α) R 3 (n - 72))
  | l3 _ _ e e' => rw [e, e']; exact ofT3 (ofL (Option α) R 4 (n - 584))
  | l4 _ _ e e' => rw [e, e']; exact ofT4 (ofL (Option α) R 5 (n - 4680))
  | l5 _ _ e e' => rw [e, e']; exact ofT5 (ofL (Option α) R 6 (n - 37448))
  | l6 _ _ e e' => rw [e, e']; exact ofT6 (ofL (Option α) R 7 (n - 299592))
  | o _ e e' => rw [e, e']; exact fun t v K => rfl
theorem disT (α : Type) {m n : Nat} (hmn : m ≠ n) : (lnT α m).Dis (lnT α n) := by
  obtain ⟨i, h⟩ := at_ α m
  obtain ⟨j, h'⟩ := at_ α n
  cases h with
  | l0 a1 a2 e _ =>
    rw [e]
    cases h' with
    | l0 b1 b2 e2 _ => rw [e2]; exact disT0 (disL (Option α) 1 (m - 0) (n - 0) (by omega) (by omega) (by omega))
    | l1 b1 b2 e2 _ => rw [e2]; exact disT01
    | l2 b1 b2 e2 _ => rw [e2]; exact disT02
    | l3 b1 b2 e2 _ => rw [e2]; exact disT03
    | l4 b1 b2 e2 _ => rw [e2]; exact disT04
    | l5 b1 b2 e2 _ => rw [e2]; exact disT05
    | l6 b1 b2 e2 _ => rw [e2]; exact disT06
    | o b1 e2 _ => rw [e2]; exact disT07
  | l1 a1 a2 e _ =>
    rw [e]
    cases h' with
    | l0 b1 b2 e2 _ => rw [e2]; exact disT10
    | l1 b1 b2 e2 _ => rw [e2]; exact disT1 (disL (Option α) 2 (m - 8) (n - 8) (by omega) (by omega) (by omega))
    | l2 b1 b2 e2 _ => rw [e2]; exact disT12
    | l3 b1 b2 e2 _ => rw [e2]; exact disT13
    | l4 b1 b2 e2 _ => rw [e2]; exact disT14
    | l5 b1 b2 e2 _ => rw [e2]; exact disT15
    | l6 b1 b2 e2 _ => rw [e2]; exact disT16
    | o b1 e2 _ => rw [e2]; exact disT17
  | l2 a1 a2 e _ =>
    rw [e]
    cases h' with
    | l0 b1 b2 e2 _ => rw [e2]; exact disT20
    | l1 b1 b2 e2 _ => rw [e2]; exact disT21
    | l2 b1 b2 e2 _ => rw [e2]; exact disT2 (disL (Option α) 3 (m - 72) (n - 72) (by omega) (by omega) (by omega))
    | l3 b1 b2 e2 _ => rw [e2]; exact disT23
    | l4 b1 b2 e2 _ => rw [e2]; exact disT24
    | l5 b1 b2 e2 _ => rw [e2]; exact disT25
    | l6 b1 b2 e2 _ => rw [e2]; exact disT26
    | o b1 e2 _ => rw [e2]; exact disT27
  | l3 a1 a2 e _ =>
    rw [e]
    cases h' with
    | l0 b1 b2 e2 _ => rw [e2]; exact disT30
    | l1 b1 b2 e2 _ => rw [e2]; exact disT31
    | l2 b1 b2 e2 _ => rw [e2]; exact disT32
    | l3 b1 b2 e2 _ => rw [e2]; exact disT3 (disL (Option α) 4 (m - 584) (n - 584) (by omega) (by omega) (by omega))
    | l4 b1 b2 e2 _ => rw [e2]; exact disT34
    | l5 b1 b2 e2 _ => rw [e2]; exact disT35
    | l6 b1 b2 e2 _ => rw [e2]; exact disT36
    | o b1 e2 _ => rw [e2]; exact disT37
  | l4 a1 a2 e _ =>
    rw [e]
    cases h' with
    | l0 b1 b2 e2 _ => rw [e2]; exact disT40
    | l1 b1 b2 e2 _ => rw [e2]; exact disT41
    | l2 b1 b2 e2 _ => rw [e2]; exact disT42
    | l3 b1 b2 e2 _ => rw [e2]; exact disT43
    | l4 b1 b2 e2 _ => rw [e2]; exact disT4 (disL (Option α) 5 (m - 4680) (n - 4680) (by omega) (by omega) (by omega))
    | l5 b1 b2 e2 _ => rw [e2]; exact disT45
    | l6 b1 b2 e2 _ => rw [e2]; exact disT46
    | o b1 e2 _ => rw [e2]; exact disT47
  | l5 a1 a2 e _ =>
    rw [e]
    cases h' with
    | l0 b1 b2 e2 _ => rw [e2]; exact disT50
    | l1 b1 b2 e2 _ => rw [e2]; exact disT51
    | l2 b1 b2 e2 _ => rw [e2]; exact disT52
    | l3 b1 b2 e2 _ => rw [e2]; exact disT53
    | l4 b1 b2 e2 _ => rw [e2]; exact disT54
    | l5 b1 b2 e2 _ => rw [e2]; exact disT5 (disL (Option α) 6 (m - 37448) (n - 37448) (by omega) (by omega) (by omega))
    | l6 b1 b2 e2 _ => rw [e2]; exact disT56
    | o b1 e2 _ => rw [e2]; exact disT57
  | l6 a1 a2 e _ =>
    rw [e]
    cases h' with
    | l0 b1 b2 e2 _ => rw [e2]; exact disT60
    | l1 b1 b2 e2 _ => rw [e2]; exact disT61
    | l2 b1 b2 e2 _ => rw [e2]; exact disT62
    | l3 b1 b2 e2 _ => rw [e2]; exact disT63
    | l4 b1 b2 e2 _ => rw [e2]; exact disT64
    | l5 b1 b2 e2 _ => rw [e2]; exact disT65
    | l6 b1 b2 e2 _ => rw [e2]; exact disT6 (disL (Option α) 7 (m - 299592) (n - 299592) (by omega) (by omega) (by omega))
    | o b1 e2 _ => rw [e2]; exact disT67
  | o a1 e _ =>
    rw [e]
    cases h' with
    | l0 b1 b2 e2 _ => rw [e2]; exact disT70
    | l1 b1 b2 e2 _ => rw [e2]; exact disT71
    | l2 b1 b2 e2 _ => rw [e2]; exact disT72
    | l3 b1 b2 e2 _ => rw [e2]; exact disT73
    | l4 b1 b2 e2 _ => rw [e2]; exact disT74
    | l5 b1 b2 e2 _ => rw [e2]; exact disT75
    | l6 b1 b2 e2 _ => rw [e2]; exact disT76
    | o b1 e2 _ => rw [e2]; exact fun t v => by show cond (Nat.beq m n) v _ = _; rw [show Nat.beq m n = false from Bool.eq_false_iff.2 fun h => hmn (Nat.eq_of_beq_eq_true h)]; rfl
theorem lfT (α : Type) (n : Nat) : (lnT α n).get (.lf : Tr α) = none := by
  obtain ⟨i, h⟩ := at_ α n
  cases h with
  | l0 _ _ e _ => rw [e]; exact lfT0 (getE none 1 (n - 0))
  | l1 _ _ e _ => rw [e]; exact lfT1 (getE none 2 (n - 8))
  | l2 _ _ e _ => rw [e]; exact lfT2 (getE none 3 (n - 72))
  | l3 _ _ e _ => rw [e]; exact lfT3 (getE none 4 (n - 584))
  | l4 _ _ e _ => rw [e]; exact lfT4 (getE none 5 (n - 4680))
  | l5 _ _ e _ => rw [e]; exact lfT5 (getE none 6 (n - 37448))
  | l6 _ _ e _ => rw [e]; exact lfT6 (getE none 7 (n - 299592))
  | o _ e _ => rw [e]; rfl

/-- The entry at a key. -/
noncomputable def B.get {α : Type} (k : B) (t : Tr α) : Option α := (lnT α k.n).get t
noncomputable def B.put {α : Type} (k : B) (t : Tr α) (v : Option α) : Tr α := (lnT α k.n).put t v
/-- An entry set. -/
noncomputable def B.setK {α R : Type} (k : B) (t : Tr α) (v : Option α) (K : Tr α → R) : R := (lkT α R k.n).set t v K
/-- A key's number. -/
def numB (k : B) : Nat := k.n
/-- The next key. -/
noncomputable def B.incK {R : Type} (k : B) (K : B → R) : R := Nat.rec (motive := fun _ => (B → R) → R) (fun K => K ⟨0⟩) (fun p _ K => K ⟨Nat.succ p⟩) (Nat.add k.n 1) K
/-- A number's key. -/
def bOf (n : Nat) : B := ⟨n⟩
end Go.Sim
