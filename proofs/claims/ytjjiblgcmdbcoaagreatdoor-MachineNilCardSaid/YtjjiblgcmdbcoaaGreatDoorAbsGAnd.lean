/- Slices of the call's own: made, written, appended to. -/
import Derived.Test.YtjjiblgcmdbcoaaGreatDoorAbsXAnd
set_option linter.unusedVariables false
set_option linter.unusedSimpArgs false
namespace Go.Abs
open Go Go.RowKit

section
variable {C : Ctx} {β : Nat → Value} {ok : Nat → Prop} {s : S} {a : Act} {w : World}

theorem RelB.other (h : RelB C β ok s a w) {id sz b : Nat} {xs : List D} (hr : s.hp (id, 0) = some (.arr sz xs)) (hb : blkOf (β id) = some b) {k : Key} {r : Res} (hk : s.hp k = some r) (hne : k ≠ (id, 0)) : ¬ Blk β w k r b := by
  intro hb'
  have hid := h.inj k (id, 0) r _ b hk hr hb' (.inl hb)
  obtain ⟨k1, k2⟩ := k
  simp only at hid
  subst hid
  obtain ⟨_, ho⟩ := h.heap _ _ hk
  obtain ⟨_, _, a', cap, f1, _⟩ := h.heap _ _ hr
  cases r with
  | cell x => obtain ⟨b2, c2, T2, v2, g1, _⟩ := ho; simp only at f1 g1; rw [f1] at g1; cases g1
  | arr sz' ys => exact hne (by have := ho.1; simp only at this; rw [this])
  | map es => exact hne (by have := ho.1; simp only at this; rw [this])
  | rows sz rs out => exact hne (by have := ho.1; simp only at this; rw [this])

theorem RelB.backArr (h : RelB C β ok s a w) {id sz b : Nat} {xs : List D} (hr : s.hp (id, 0) = some (.arr sz xs)) (hb : blkOf (β id) = some b) (new : Array Value) {k : Key} {r : Res} (hk : s.hp k = some r) {b' : Nat} (hb' : Blk β (w.setRow b new) k r b') : Blk β w k r b' := by
  by_cases hne : k = (id, 0)
  · subst hne
    rw [hr] at hk
    cases hk
    exact .inl hb'.arr
  · exact Blk.mono rfl (fun c hc' => setRow_other w b c new (fun e => h.other hr hb hk hne (e ▸ hc'))) hb'

/-- A new row. -/
theorem RelB.newArr (h : RelB C β ok s a w) {dst : Option Tmp} (hd : ∀ d, dst = some d → d < C.nt) {id : Nat} (hid : ¬ s.used id) {cur : Array Value} (T : TypeId) {sz cap : Nat} {xs : List D} (hsz : 0 < sz)
    (hcap : xs.length ≤ cap) (hm : cap ≤ maxLen) (hw : ∀ (i : Nat) x, xs[i]? = some x → x.cells.length = sz) (hcs : cap * sz ≤ cur.size)
    (hx : ∀ (i : Nat) x (j : Nat) c, xs[i]? = some x → x.cells[j]? = some c → ∃ u, cur[i * sz + j]? = some u ∧ RdD ok w u c ∧ u.oneCell' = true ∧ c.one = true) :
    ∃ β', RelB C β' ok (s.apply dst (.sl id sz 0 xs.length) [((id, 0), some (.arr sz xs))] [id]) (a.put dst (.slice (some ⟨w.heap.size, 0, none⟩) xs.length cap)) (w.alloc (.cells cur T)) := by
  have hsize := h.size_le
  have hβ := ghost_old (β := β) (v := .slice (some ⟨w.heap.size, 0, none⟩) xs.length cap) hid
  have hk := keeps_alloc h.okb (.cells cur T)
  have hblk : ∀ b, blkOf (Value.slice (some ⟨w.heap.size, 0, none⟩) xs.length cap) = some b → b = w.heap.size := fun b hb => by
    cases cap <;> simp [blkOf] at hb; exact hb.symm
  refine ⟨ghost β id (.slice (some ⟨w.heap.size, 0, none⟩) xs.length cap), h.step hd hβ (fun _ h => h) hk
    (.sl id sz 0 xs.length xs.length cap _ _ (.inr (by simp)) (ghost_new _ _ _) (by omega) hm (fun _ => ⟨w.heap.size, 0, rfl, by simp⟩)) (fun k r hr _ b hb => ?_) (fun k r hm' => ?_) (fun k k' r r' b hm' hr hb hb' => ?_)
    (fun b hb => by have := h.okb b hb; simp; omega) (fun b hb => .inl hb) (h.frame.alloc _)⟩
  · have := h.sep k r b hr hb
    exact ⟨⟨this.1, by simp; omega⟩, .inl (heap_alloc_old w _ b this.2.1)⟩
  · simp at hm'
    obtain ⟨rfl, rfl⟩ := hm'
    refine ⟨.inr (by simp), ⟨rfl, _, cap, ghost_new _ _ _, hcap, hm, hsz, hw, fun _ => ⟨w.heap.size, 0, cur, T, rfl, heap_alloc_new w _, by omega, fun i x j c h1 h2 => ?_⟩⟩, fun b hb => ?_⟩
    · obtain ⟨u, e1, e2, e3⟩ := hx i x j c h1 h2
      exact ⟨u, by rw [Nat.zero_add]; exact e1, e2.mono hk (fun _ h => h), e3⟩
    · have hb := hb.arr
      rw [ghost_new] at hb
      have := hblk b hb
      subst this
      exact ⟨fun hc => by have := h.okb _ hc; omega, by simp, fun hc => by omega⟩
  · simp at hm'
    obtain ⟨rfl, rfl⟩ := hm'
    have hb := hb.arr
    rw [ghost_new] at hb
    have := hblk b hb
    subst this
    rcases updH_eq s.hp [((id, 0), some (Res.arr sz xs))] k' with ⟨e, hno⟩ | ⟨r0, hm'', e⟩
    · have hr' : s.hp k' = some r' := e.symm.trans hr
      have := (h.sep k' r' _ hr' (h.backAlloc hβ _ hr' hb')).2.1
      omega
    · simp at hm''
      rw [hm''.1]

theorem mul_add_lt {i i' sz j off n : Nat} (hj : j < sz) (hn : off + n ≤ sz) (hne : i' ≠ i) : i' * sz + j < i * sz + off ∨ i * sz + off + n ≤ i' * sz + j := by
  rcases Nat.lt_or_ge i' i with h | h
  · have := Nat.mul_le_mul_right sz (show i' + 1 ≤ i by omega)
    rw [Nat.succ_mul] at this
    omega
  · have := Nat.mul_le_mul_right sz (show i + 1 ≤ i' by omega)
    rw [Nat.succ_mul] at this
    omega

theorem elem_fits {i n sz off m : Nat} (hi : i < n) (hm : off + m ≤ sz) : i * sz + off + m ≤ n * sz := by
  have := Nat.mul_le_mul_right sz (show i + 1 ≤ n by omega)
  rw [Nat.succ_mul] at this
  omega

/-- A store into an element. -/
theorem RelB.storeArr (h : RelB C β ok s a w) {dst : Option Tmp} (hd : ∀ d, dst = some d → d < C.nt) {id sz i off : Nat} {xs : List D} (hr : s.hp (id, 0) = some (.arr sz xs)) {x x' : D} (hx : xs[i]? = some x)
    {vs : List Value} (hlen : off + vs.length ≤ sz) (hx' : x'.cells.length = sz)
    (hin : ∀ (j : Nat) v c, vs[j]? = some v → x'.cells[off + j]? = some c → RdD ok w v c ∧ v.oneCell' = true ∧ c.one = true)
    (hout : ∀ j, j < sz → j < off ∨ off + vs.length ≤ j → x'.cells[j]? = x.cells[j]?) (vd : Value) :
    ∃ b o cur T n cap, β id = .slice (some ⟨b, o, none⟩) n cap ∧ w.heap[b]? = some (.cells cur T (0, 0)) ∧ o + (i * sz + off) + vs.length ≤ cur.size ∧
      RelB C β ok (s.apply dst .any [((id, 0), some (.arr sz (xs.set i x')))] []) (a.put dst vd) (w.setRow b (patch cur (o + (i * sz + off)) vs)) := by
  obtain ⟨hu0, _, a0, cap, e1, e2, e3, e4, e5, e6⟩ := h.heap _ _ hr
  have hi : i < xs.length := (List.getElem?_eq_some_iff.1 hx).1
  obtain ⟨b, o, cur, T, rfl, f1, f2, f3⟩ := e6 (by omega)
  have hbl : blkOf (β id) = some b := by rw [show β id = _ from e1]; cases cap with
    | zero => omega
    | succ n => rfl
  have hsep := h.sep _ _ b hr (.inl hbl)
  have hk : Keeps ok w (w.setRow b (patch cur (o + (i * sz + off)) vs)) := keeps_setRow hsep.1
  have hfit : o + (i * sz + off) + vs.length ≤ cur.size := by have := elem_fits (sz := sz) (off := off) (m := vs.length) (show i < cap by omega) hlen; omega
  have hnewrow := setRow_heap w b cur (patch cur (o + (i * sz + off)) vs) T (0, 0) f1
  refine ⟨b, o, cur, T, _, cap, e1, f1, hfit, h.step hd (fun _ _ => rfl) (fun _ h => h) hk (.any _) (fun k r hr' hno b' hb' => ?_) (fun k r hm => ?_) (fun k k' r r' b' hm hr' hb hb' => ?_)
    (fun b hb => by rw [size_setRow]; exact h.okb b hb) (fun b hb => .inl hb) (setRow_frame h.frame f1 (size_patch hfit) (fun hb0 o' ho => ?_) (fun hb0 => ⟨0, ?_⟩))⟩
  · have hs := h.sep k r b' hr' hb'
    refine ⟨⟨hs.1, by rw [size_setRow]; exact hs.2.1⟩, .inl (setRow_other w b b' _ (fun e => ?_))⟩
    subst e
    exact h.other hr hbl hr' (fun e => hno (some (.arr sz (xs.set i x'))) (by simp [e])) hb'
  · simp at hm
    obtain ⟨rfl, rfl⟩ := hm
    refine ⟨.inl hu0, ⟨rfl, _, cap, by simp only [List.length_set]; exact e1, by simpa using e2, e3, e4, fun i' y hy => ?_, fun hc => ⟨b, o, _, T, rfl, hnewrow, by rw [size_patch hfit]; exact f2, fun i' y j c hy hc => ?_⟩⟩, fun b' hb' => ?_⟩
    · by_cases e : i = i'
      · subst e; rw [List.getElem?_set_self hi] at hy; cases hy; exact hx'
      · rw [List.getElem?_set_ne e] at hy; exact e5 i' y hy
    · have hj : j < sz := by
        have hw : y.cells.length = sz := by
          by_cases e : i = i'
          · subst e; rw [List.getElem?_set_self hi] at hy; cases hy; exact hx'
          · rw [List.getElem?_set_ne e] at hy; exact e5 i' y hy
        rw [← hw]; exact (List.getElem?_eq_some_iff.1 hc).1
      by_cases e : i = i'
      · subst e
        rw [List.getElem?_set_self hi] at hy
        cases hy
        by_cases hjr : off ≤ j ∧ j < off + vs.length
        · have hv : vs[j - off]? = some vs[j - off] := by simp
          have hc' : x'.cells[off + (j - off)]? = some c := by rw [show off + (j - off) = j by omega]; exact hc
          obtain ⟨g1, g2⟩ := hin _ _ c hv hc'
          refine ⟨vs[j - off], ?_, g1.mono hk (fun _ h => h), g2⟩
          rw [show o + (i * sz + j) = o + (i * sz + off) + (j - off) by omega, patch_in hfit (by omega)]
          exact hv
        · have hc' : x.cells[j]? = some c := by rw [← hout j hj (by omega)]; exact hc
          obtain ⟨u, g1, g2, g3⟩ := f3 i x j c hx hc'
          exact ⟨u, by rw [patch_out hfit (by omega)]; exact g1, g2.mono hk (fun _ h => h), g3⟩
      · rw [List.getElem?_set_ne e] at hy
        obtain ⟨u, g1, g2, g3⟩ := f3 i' y j c hy hc
        refine ⟨u, ?_, g2.mono hk (fun _ h => h), g3⟩
        rw [patch_out hfit]
        · exact g1
        · have := mul_add_lt (i := i) (i' := i') hj hlen (Ne.symm e)
          omega
    · have hb' := hb'.arr
      simp only [hbl, Option.some.injEq] at hb'
      subst hb'
      exact ⟨hsep.1, by rw [size_setRow]; exact hsep.2.1, hsep.2.2⟩
  · simp at hm
    obtain ⟨rfl, rfl⟩ := hm
    have hb := hb.arr
    simp only [hbl, Option.some.injEq] at hb
    subst hb
    rcases updH_eq s.hp [((id, 0), some (Res.arr sz (xs.set i x')))] k' with ⟨e, hno⟩ | ⟨r0, hm', e⟩
    · have h2 : s.hp k' = some r' := e.symm.trans hr'
      exact (h.inj k' (id, 0) r' _ b h2 hr (h.backArr hr hbl _ h2 hb') (.inl hbl)).symm
    · simp at hm'
      rw [hm'.1]
  · exact absurd (hsep.2.2 hb0 o') ho
  · exact hsep.2.2 hb0 0

end
end Go.Abs

/- append on a slice of the call's own. -/
namespace Go.Abs
open Go Go.RowKit

/-- What is appended: the cells of a slice, wherever they lie. -/
def Src (ok : Nat → Prop) (w : World) (v : Value) (sz : Nat) (ys : List D) : Prop :=
  ∃ a cap, v = .slice a ys.length cap ∧ (∀ (i : Nat) x, ys[i]? = some x → x.cells.length = sz) ∧
    (0 < ys.length → ∃ b o, a = some ⟨b, o, none⟩ ∧
      ∀ (i : Nat) x (j : Nat) c, ys[i]? = some x → x.cells[j]? = some c → ∃ u, w.cell? ⟨b, o + (i * sz + j), none⟩ = some u ∧ RdD ok w u c ∧ u.oneCell' = true ∧ c.one = true)

theorem Src.of_list {ok : Nat → Prop} {w : World} {v : Value} {sz : Nat} {ys : List D} (h : RdD ok w v (.list ys)) (hs : ∀ (i : Nat) x, ys[i]? = some x → x.cells.length = sz) : Src ok w v sz ys := by
  cases h with
  | lemp a => exact ⟨a, 0, rfl, hs, fun h => by simp at h⟩
  | lst a cap sz' xs us h1 h2 h3 h4 h5 h6 h7 h8 =>
    obtain ⟨b, o, sp⟩ := a
    simp only at h2
    subst h2
    refine ⟨_, cap, rfl, hs, fun hp => ⟨b, o, rfl, fun i x j c hx hc => ?_⟩⟩
    have e : sz' = sz := by rw [← h6 i x hx, hs i x hx]
    subst e
    obtain ⟨g1, g2⟩ := h7 i x j c hx hc
    exact ⟨_, g1, h8 i x j c hx hc, g2⟩

theorem Src.of_arr {ok : Nat → Prop} {w : World} {β : Nat → Value} {u : Nat → Prop} {v : Value} {id sz off len : Nat} {xs : List D} (hv : RdV β u ok w v (.sl id sz off len)) (ho : OwnArr ok w (β id) sz xs) (hl : off + len ≤ xs.length) :
    Src ok w v sz ((xs.drop off).take len) := by
  cases hv with
  | sl _ _ _ _ n cap a0 a h1 h2 h3 h3' h4 =>
    obtain ⟨a1, cap1, g0, g1, g2, g3, g4, g5⟩ := ho
    rw [h2] at g0
    simp at g0
    obtain ⟨rfl, rfl, rfl⟩ := g0
    have hlen : ((xs.drop off).take len).length = len := by simp; omega
    have hget : ∀ (i : Nat) x, ((xs.drop off).take len)[i]? = some x → xs[off + i]? = some x ∧ i < len := fun i x hx => by
      have hi : i < len := by rw [← hlen]; exact (List.getElem?_eq_some_iff.1 hx).1
      rw [List.getElem?_take_of_lt hi, List.getElem?_drop] at hx
      exact ⟨hx, hi⟩
    refine ⟨a, cap - off, by rw [hlen], fun i x hx => g4 _ x (hget i x hx).1, fun hp => ?_⟩
    have hp' : 0 < len := by rw [← hlen]; exact hp
    obtain ⟨b, o, e1, e2⟩ := h4 (by omega)
    obtain ⟨b', o', cur, T, e3, e4, e5, e6⟩ := g5 (by omega)
    rw [e1] at e3
    simp at e3
    obtain ⟨rfl, rfl⟩ := e3
    refine ⟨b, o + off * sz, e2, fun i x j c hx hc => ?_⟩
    obtain ⟨u', f1, f2⟩ := e6 (off + i) x j c (hget i x hx).1 hc
    refine ⟨u', ?_, f2⟩
    rw [cell_of_row w b _ cur T (0, 0) e4, ← f1]
    congr 1
    rw [Nat.add_mul]; omega

/-- The cells of what is appended, in a row. -/
theorem Src.news {ok : Nat → Prop} {w : World} {v : Value} {sz : Nat} {ys : List D} (hsz : 0 < sz) (h : Src ok w v sz ys) :
    ∃ (a : Option Addr) (cap : Nat) (news : List Value), v = .slice a ys.length cap ∧ news.length = ys.length * sz ∧ (∀ u ∈ news, Value.oneCell' u = true) ∧ (0 < ys.length → ∃ ad, a = some ad ∧ ∀ j u, news[j]? = some u → w.cell? (ad.add j) = some u) ∧
      (∀ (i : Nat) x (j : Nat) c, ys[i]? = some x → x.cells[j]? = some c → ∃ u, news[i * sz + j]? = some u ∧ RdD ok w u c ∧ u.oneCell' = true ∧ c.one = true) := by
  obtain ⟨a, cap, rfl, h1, h2⟩ := h
  rcases Nat.eq_zero_or_pos ys.length with h0 | h0
  · have : ys = [] := List.length_eq_zero_iff.1 h0
    subst this
    exact ⟨a, cap, [], rfl, by simp, by simp, fun h => by simp at h, fun i x j c hx => by simp at hx⟩
  · obtain ⟨b, o, rfl, h3⟩ := h2 h0
    have key : ∀ q, q < ys.length * sz → ∃ u c, w.cell? ⟨b, o + q, none⟩ = some u ∧ u.oneCell' = true ∧ (ys[q / sz]?).bind (fun x => x.cells[q % sz]?) = some c := fun q hq => by
      have hi : q / sz < ys.length := (Nat.div_lt_iff_lt_mul hsz).2 hq
      have hx : ys[q / sz]? = some ys[q / sz] := by simp [hi]
      have hj : q % sz < (ys[q / sz]).cells.length := by rw [h1 _ _ hx]; exact Nat.mod_lt _ hsz
      have hc : (ys[q / sz]).cells[q % sz]? = some ((ys[q / sz]).cells[q % sz]) := by simp
      obtain ⟨u, f1, f2, f3, f4⟩ := h3 _ _ _ _ hx hc
      have e : q / sz * sz + q % sz = q := by rw [Nat.mul_comm]; exact Nat.div_add_mod q sz
      rw [e] at f1
      exact ⟨u, _, f1, f3, by rw [hx]; exact hc⟩
    refine ⟨_, cap, (List.range (ys.length * sz)).map fun q => (w.cell? ⟨b, o + q, none⟩).getD undef, rfl, by simp, fun u hu => ?_, fun _ => ⟨_, rfl, fun j u hu => ?_⟩, fun i x j c hx hc => ?_⟩
    · simp at hu
      obtain ⟨q, hq, rfl⟩ := hu
      obtain ⟨u, c, f1, f2, _⟩ := key q hq
      rw [f1]; exact f2
    · simp only [List.getElem?_map, Option.map_eq_some_iff] at hu
      obtain ⟨q, hq, rfl⟩ := hu
      have hqlt : j < ys.length * sz := by have := (List.getElem?_eq_some_iff.1 hq).1; simpa using this
      have : q = j := by have := (List.getElem?_eq_some_iff.1 hq).2; simp at this; exact this.symm
      subst this
      obtain ⟨u, c, f1, _⟩ := key q hqlt
      rw [Addr.add_lit, f1]; rfl
    · have hi : i < ys.length := (List.getElem?_eq_some_iff.1 hx).1
      have hj : j < sz := by rw [← h1 _ _ hx]; exact (List.getElem?_eq_some_iff.1 hc).1
      have hq : i * sz + j < ys.length * sz := by have := elem_fits (off := j) (m := 1) (sz := sz) hi (by omega); omega
      obtain ⟨u, f1, f2⟩ := h3 i x j c hx hc
      exact ⟨u, by simp [hq, f1], f2⟩

section
variable {P : Program}

/-- The run of an append: in place or into a new row. -/
theorem run_append_gen (w : World) (t ty e : TypeId) (i : TypeInfo) (z : Value) (ht : P.underlying t = some (.slice e)) (hi : P.info? e = some i) (hz : i.zero = some z) (hzs : z.cells.size = i.size)
    (a0 : Option Addr) (n cap : Nat) (hn : n ≤ cap) (b o : Nat) (cur : Array Value) (T : TypeId)
    (hb : 0 < cap → a0 = some ⟨b, o, none⟩ ∧ w.heap[b]? = some (.cells cur T (0, 0)) ∧ o + cap * i.size ≤ cur.size)
    (m cx : Nat) (ax : Option Addr) (news : List Value) (hl : news.length = m * i.size) (h1 : ∀ u ∈ news, u.oneCell' = true)
    (hx : 0 < m → ∃ ad, ax = some ad ∧ ∀ j u, news[j]? = some u → w.cell? (ad.add j) = some u) (h63 : n + m ≤ maxLen) (hbytes : (n + m) * i.bytes ≤ 140737488355328) :
    (n + m ≤ cap ∧ (Builtin.append_ #[t, t] ty #[.slice a0 n cap, .slice ax m cx]).run P w = .ok (.slice a0 (n + m) cap) (if 0 < m then w.setRow b (patch cur (o + n * i.size) news) else w)) ∨
    (cap < n + m ∧ ∃ cap' rest, n + m ≤ cap' ∧ cap' ≤ maxLen ∧ (n + m) * i.size + rest.size = cap' * i.size ∧
      (Builtin.append_ #[t, t] ty #[.slice a0 n cap, .slice ax m cx]).run P w =
        .ok (.slice (some ⟨w.heap.size, 0, none⟩) (n + m) cap') (w.drew.alloc (.cells (((List.range (n * i.size)).map fun q => (cur[o + q]?).getD undef).toArray ++ news.toArray ++ rest) e))) := by
  by_cases hroom : n + m ≤ cap
  · left
    refine ⟨hroom, ?_⟩
    rcases Nat.eq_zero_or_pos m with hm | hm
    · subst hm
      have hnews : news = [] := List.eq_nil_of_length_eq_zero (by simpa using hl)
      subst hnews
      simp only [Nat.lt_irrefl, if_false]
      cases ax with
      | none => cases a0 <;> simp [Builtin.append_, run_underlying ht, Go.sizeOf, typeInfo, hi, Builtin.lenOf, hn, Builtin.firstCells, Go.storeCells]
      | some ax =>
        have hf := run_firstCells_some (P := P) w i.size 0 ax 0 cx [] (by simp) (by simp)
        cases a0 <;> simp [Builtin.append_, run_underlying ht, Go.sizeOf, typeInfo, hi, Builtin.lenOf, hn, hf, Go.storeCells]
    · obtain ⟨ad, rfl, hcell⟩ := hx hm
      obtain ⟨rfl, hh, hs⟩ := hb (by omega)
      have hf := run_firstCells_some (P := P) w i.size m ad m cx news hl hcell
      have hfit : o + n * i.size + 0 + news.length ≤ cur.size := by
        have := Nat.mul_le_mul_right i.size hroom
        rw [Nat.add_mul] at this
        omega
      have hst := run_storeCells_at P b (o + n * i.size) T news 0 cur w hh hfit h1
      simp only [Nat.add_zero] at hst
      simp [Builtin.append_, run_underlying ht, Go.sizeOf, typeInfo, hi, Builtin.lenOf, hroom, hf, Addr.add_lit, hst, hm, patch]
  · right
    have hm : 0 < m := by omega
    obtain ⟨ad, rfl, hcell⟩ := hx hm
    have hge := grownCap_ge w (n + m) cap e
    have hcm : grownCap w (n + m) cap e ≤ maxLen := grownCap_le_maxLen w (n + m) cap e h63
    have hsmall : n + m ≤ 9223372036854775807 := by simp only [maxLen] at h63; omega
    refine ⟨by omega, grownCap w (n + m) cap e, Builtin.zeroCells z.cells (grownCap w (n + m) cap e - (n + m)), hge, hcm, ?_, ?_⟩
    · rw [size_zeroCells, hzs, ← Nat.add_mul]; congr 1; omega
    · rcases Nat.eq_zero_or_pos cap with hc | hc
      · subst hc
        have hn0 : n = 0 := by omega
        subst hn0
        simp only [Nat.zero_add, Nat.zero_mul, List.range_zero, List.map_nil, Array.empty_append]
        cases a0 with
        | none =>
          have := run_append_nil (P := P) w t ty e i z ht hi hz ad m cx news hl hcell hm (by omega) (by rw [Nat.zero_add] at hbytes; omega)
          simpa using this
        | some a0 =>
          have := run_append_grow (P := P) w t ty e i z ht hi hz a0 0 0 [] (by simp) (by simp) ad m cx news hl hcell (by omega) (by omega) (growslice_fits (by omega) hbytes)
          simpa using this
      · obtain ⟨rfl, hh, hs⟩ := hb hc
        have holds : ∀ j v, ((List.range (n * i.size)).map fun q => (cur[o + q]?).getD undef)[j]? = some v → w.cell? ((⟨b, o, none⟩ : Addr).add j) = some v := fun j v hv => by
          simp only [List.getElem?_map, Option.map_eq_some_iff] at hv
          obtain ⟨q, hq, rfl⟩ := hv
          have hqlt : j < n * i.size := by have := (List.getElem?_eq_some_iff.1 hq).1; simpa using this
          have : q = j := by have := (List.getElem?_eq_some_iff.1 hq).2; simp at this; exact this.symm
          subst this
          have := Nat.mul_le_mul_right i.size hn
          have hlt : o + q < cur.size := by omega
          rw [Addr.add_lit, cell_of_row w b _ cur T (0, 0) hh]
          simp [hlt]
        exact run_append_grow (P := P) w t ty e i z ht hi hz ⟨b, o, none⟩ n cap _ (by simp) holds ad m cx news hl hcell (by omega) (by omega) (growslice_fits (by omega) hbytes)

end
end Go.Abs

/- append on a slice of the call's own: what it does to the state. -/
namespace Go.Abs
open Go Go.RowKit

theorem OwnArr.sub {ok : Nat → Prop} {w : World} {β : Nat → Value} {u : Nat → Prop} {v : Value} {id sz off len : Nat} {xs : List D} (hv : RdV β u ok w v (.sl id sz off len)) (ho : OwnArr ok w (β id) sz xs) (hl : off + len ≤ xs.length) :
    OwnArr ok w v sz ((xs.drop off).take len) ∧ ∀ b, blkOf v = some b → blkOf (β id) = some b := by
  cases hv with
  | sl _ _ _ _ n cap a0 a h1 h2 h3 h3' h4 =>
    obtain ⟨a1, cap1, g0, g1, g2, g3, g4, g5⟩ := ho
    rw [h2] at g0
    simp at g0
    obtain ⟨rfl, rfl, rfl⟩ := g0
    have hlen : ((xs.drop off).take len).length = len := by simp; omega
    have hget : ∀ (i : Nat) x, ((xs.drop off).take len)[i]? = some x → xs[off + i]? = some x ∧ i < len := fun i x hx => by
      have hi : i < len := by rw [← hlen]; exact (List.getElem?_eq_some_iff.1 hx).1
      rw [List.getElem?_take_of_lt hi, List.getElem?_drop] at hx
      exact ⟨hx, hi⟩
    refine ⟨⟨a, cap - off, by rw [hlen], by rw [hlen]; omega, by omega, g3, fun i x hx => g4 _ x (hget i x hx).1, fun hc => ?_⟩, fun b hb => ?_⟩
    · obtain ⟨b, o, e1, e2⟩ := h4 (by omega)
      obtain ⟨b', o', cur, T, e3, e4, e5, e6⟩ := g5 (by omega)
      rw [e1] at e3
      simp at e3
      obtain ⟨rfl, rfl⟩ := e3
      refine ⟨b, o + off * sz, cur, T, e2, e4, ?_, fun i x j c hx hc => ?_⟩
      · have := Nat.add_mul off (cap - off) sz
        rw [show off + (cap - off) = cap by omega] at this
        omega
      · obtain ⟨u', f1, f2⟩ := e6 (off + i) x j c (hget i x hx).1 hc
        refine ⟨u', ?_, f2⟩
        rw [← f1]
        congr 1
        rw [Nat.add_mul]; omega
    · rcases Nat.lt_or_ge off cap with hlt | hge
      · obtain ⟨b', o, e1, e2⟩ := h4 hlt
        rw [e2] at hb
        rw [h2, e1]
        obtain ⟨c', hc'⟩ : ∃ c', cap - off = c' + 1 := ⟨cap - off - 1, by omega⟩
        obtain ⟨c'', hc''⟩ : ∃ c'', cap = c'' + 1 := ⟨cap - 1, by omega⟩
        rw [hc'] at hb
        rw [hc'']
        exact hb
      · rw [show cap - off = 0 by omega] at hb
        cases a <;> simp [blkOf] at hb

def dropδ : Option Nat → List (Key × Option Res)
  | some id => [((id, 0), none)]
  | none => []

theorem mem_dropδ {rm : Option Nat} {k : Key} {r : Option Res} (h : (k, r) ∈ dropδ rm) : ∃ id, rm = some id ∧ k = (id, 0) ∧ r = none := by
  cases rm with
  | none => cases h
  | some id => simp [dropδ] at h; exact ⟨id, rfl, h.1, h.2⟩

section
variable {P : Program} {T : Nat → TE} {C : Ctx} {β : Nat → Value} {ok : Nat → Prop} {s : S} {a : Act} {w : World}

theorem RelB.append (h : RelB C β ok s a w) (hT : TOK P T) {dst : Option Tmp} (hd : ∀ d, dst = some d → d < C.nt) {t e ty : Nat} (hk : (T t).k = .slc e) (he : (T e).k ≠ .none) {v vx : Value} {ds ys : List D}
    (hv : OwnArr ok w v (T e).size ds) (hx : Src ok w vx (T e).size ys) {rm : Option Nat}
    (hrm : ∀ b, blkOf v = some b → ∃ id xs, rm = some id ∧ s.hp (id, 0) = some (.arr (T e).size xs) ∧ blkOf (β id) = some b)
    {m : Nat} (hm : ¬ s.used m) (h63 : ds.length + ys.length ≤ maxLen) (hbytes : (ds.length + ys.length) * (T e).bytes ≤ 140737488355328) :
    ∃ β' v' w', (Builtin.append_ #[t, t] ty #[v, vx]).run P w = .ok v' w' ∧
      RelB C β' ok (s.apply dst (.sl m (T e).size 0 (ds.length + ys.length)) (((m, 0), some (.arr (T e).size (ds ++ ys))) :: dropδ rm) [m]) (a.put dst v') w' := by
  obtain ⟨de, ie, hfe⟩ := hT.facts he
  have hu := hT.slc hk
  obtain ⟨a0, cap, rfl, h1, h2, hsz, hwd, hcells⟩ := hv
  obtain ⟨ax, cx, news, rfl, hnl, hn1, hnx, hnr⟩ := hx.news hsz
  have hsize := h.size_le
  have hmne : ∀ id xs, s.hp (id, 0) = some (.arr (T e).size xs) → id ≠ m := fun id xs hr e => hm (e ▸ (h.heap _ _ hr).1)
  -- what any of the two outcomes owes
  have finish : ∀ (v' : Value) (w' : World) (newb : Option Nat), v' = .slice (match newb with | some _ => some ⟨w.heap.size, 0, none⟩ | none => a0) (ds.length + ys.length) (match newb with | some c => c | none => cap) →
      (∀ k, k < w.heap.size → (∀ b, blkOf (.slice a0 ds.length cap) = some b → k ≠ b) → w'.heap[k]? = w.heap[k]?) → w.heap.size ≤ w'.heap.size →
      (∀ c, newb = some c → w.heap.size < w'.heap.size) → Frame C.wr C.w0 w' →
      (∀ ok' : Nat → Prop, Keeps ok w w' → OwnArr ok w' v' (T e).size (ds ++ ys)) →
      RelB C (ghost β m v') ok (s.apply dst (.sl m (T e).size 0 (ds.length + ys.length)) (((m, 0), some (.arr (T e).size (ds ++ ys))) :: dropδ rm) [m]) (a.put dst v') w' := by
    intro v' w' newb hv' hheap hle hlt hfr hown
    have hβ := ghost_old (β := β) (v := v') hm
    have hrmb : ∀ b, blkOf (.slice a0 ds.length cap) = some b → ¬ ok b ∧ b < w.heap.size ∧ (b < C.w0.heap.size → ∀ o, C.wr b o) := fun b hb => by
      obtain ⟨id, xs, e1, e2, e3⟩ := hrm b hb
      exact h.sep _ _ b e2 (.inl e3)
    have hk' : Keeps ok w w' := fun b hb => hheap b (h.okb b hb) (fun b' hb' e => (hrmb b' hb').1 (e ▸ hb))
    have hblk' : ∀ b, blkOf v' = some b → (∃ c, newb = some c ∧ b = w.heap.size) ∨ blkOf (.slice a0 ds.length cap) = some b := fun b hb => by
      rw [hv'] at hb
      cases newb with
      | some c => left; refine ⟨c, rfl, ?_⟩; cases c <;> simp [blkOf] at hb; exact hb.symm
      | none =>
        right
        simp only at hb
        cases cap with
        | zero => cases a0 <;> simp [blkOf] at hb
        | succ c => cases a0 <;> simp [blkOf] at hb ⊢; exact hb
    have hsl : RdV (ghost β m v') (fun i => s.used i ∨ i ∈ [m]) ok w' v' (.sl m (T e).size 0 (ds.length + ys.length)) := by
      obtain ⟨a', cap', f1, f2, f3, f4, f5, f6⟩ := hown ok hk'
      have hlen : (ds ++ ys).length = ds.length + ys.length := by simp
      rw [hlen] at f1 f2
      have := RdV.sl (β := ghost β m v') (u := fun i => s.used i ∨ i ∈ [m]) (ok := ok) (w := w') m (T e).size 0 (ds.length + ys.length) (ds.length + ys.length) cap' a' a' (.inr (by simp)) (by rw [ghost_new]; exact f1) (by omega) f3
        (fun hc => by obtain ⟨b, o, cur, T', g1, _⟩ := f6 hc; exact ⟨b, o, g1, by simpa using g1⟩)
      rw [Nat.sub_zero, ← f1] at this
      exact this
    refine h.step hd hβ (fun _ h => h) hk' hsl (fun k r hr hno b hb => ?_) (fun k r hmm => ?_) (fun k k' r r' b hmm hr hb hb' => ?_) (fun b hb => Nat.lt_of_lt_of_le (h.okb b hb) hle) (fun b hb => .inl hb) hfr
    · have hs := h.sep k r b hr hb
      refine ⟨⟨hs.1, Nat.lt_of_lt_of_le hs.2.1 hle⟩, .inl (hheap b hs.2.1 (fun b' hb' e' => ?_))⟩
      subst e'
      obtain ⟨id, xs, e1, e2, e3⟩ := hrm b hb'
      refine h.other e2 e3 hr (fun e' => hno none ?_) hb
      rw [e', e1]; simp [dropδ]
    · rcases List.mem_cons.1 hmm with hmm | hmm
      · simp only [Prod.mk.injEq, Option.some.injEq] at hmm
        obtain ⟨rfl, rfl⟩ := hmm
        refine ⟨.inr (by simp), ⟨rfl, by rw [ghost_new]; exact hown ok hk'⟩, fun b hb => ?_⟩
        have hb := hb.arr
        rw [ghost_new] at hb
        rcases hblk' b hb with ⟨c, hc, rfl⟩ | hb'
        · exact ⟨fun ho => by have := h.okb _ ho; omega, hlt c hc, fun hc => by omega⟩
        · have := hrmb b hb'
          exact ⟨this.1, Nat.lt_of_lt_of_le this.2.1 hle, this.2.2⟩
      · obtain ⟨id, _, _, e3⟩ := mem_dropδ hmm
        cases e3
    · rcases List.mem_cons.1 hmm with hmm | hmm
      · simp only [Prod.mk.injEq, Option.some.injEq] at hmm
        obtain ⟨rfl, rfl⟩ := hmm
        have hb := hb.arr
        rw [ghost_new] at hb
        rcases updH_eq s.hp (((m, 0), some (Res.arr (T e).size (ds ++ ys))) :: dropδ rm) k' with ⟨e', hno⟩ | ⟨r0, hm', e'⟩
        · have hr' : s.hp k' = some r' := e'.symm.trans hr
          have hused := (h.heap k' r' hr').1
          have hb' : Blk β w k' r' b := Blk.mono (hβ k'.1 hused) (fun c hc => hheap c (h.sep k' r' c hr' hc).2.1 (fun b' hb'' e'' => by
            subst e''
            obtain ⟨id, xs, e1, e2, e3⟩ := hrm c hb''
            refine h.other e2 e3 hr' (fun e4 => hno none ?_) hc
            rw [e4, e1]; simp [dropδ])) hb'
          exfalso
          rcases hblk' b hb with ⟨c, hc, rfl⟩ | hb2
          · have := (h.sep k' r' _ hr' hb').2.1
            omega
          · obtain ⟨id, xs, e1, e2, e3⟩ := hrm b hb2
            refine h.other e2 e3 hr' (fun e'' => hno none ?_) hb'
            rw [e'', e1]; simp [dropδ]
        · rcases List.mem_cons.1 hm' with hm' | hm'
          · simp only [Prod.mk.injEq] at hm'
            rw [hm'.1]
          · obtain ⟨id, _, _, e3⟩ := mem_dropδ hm'
            rw [e3] at e'
            rw [e'] at hr
            cases hr
      · obtain ⟨id, _, _, e3⟩ := mem_dropδ hmm
        cases e3
  have hwidth : ∀ (i : Nat) x, (ds ++ ys)[i]? = some x → x.cells.length = (T e).size := fun i x hx' => by
    rcases Nat.lt_or_ge i ds.length with hi | hi
    · rw [List.getElem?_append_left hi] at hx'; exact hwd i x hx'
    · rw [List.getElem?_append_right hi] at hx'
      obtain ⟨a2, c2, g1, g2, _⟩ := hx
      simp at g1
      exact g2 _ x hx'
  have hn1' : ∀ u ∈ news, u.oneCell' = true := hn1
  rw [← hfe.bytes] at hbytes
  rcases Nat.eq_zero_or_pos cap with hc0 | hc0
  · -- no room at all
    subst hc0
    have hds0 : ds = [] := List.length_eq_zero_iff.1 (by omega)
    subst hds0
    have hnb : ∀ b, blkOf (.slice a0 0 0) ≠ some b := fun b hb => by cases a0 <;> simp [blkOf] at hb
    rcases run_append_gen (P := P) w t ty e ie (T e).zero hu hfe.info hfe.zero (by rw [hfe.zsize, hfe.size]) a0 0 0 (by omega) 0 0 #[] 0 (fun hc => by omega) ys.length cx ax news (by rw [hfe.size]; exact hnl) hn1' hnx (by simpa using h63) (by simpa using hbytes) with ⟨g1, g2⟩ | ⟨g1, cap', rest, g2, g3, g4, g5⟩
    · have hy0 : ys.length = 0 := by omega
      have hys : ys = [] := List.length_eq_zero_iff.1 hy0
      subst hys
      simp only [List.length_nil, Nat.lt_irrefl, if_false] at g2
      refine ⟨_, _, _, g2, finish _ _ none rfl (fun k _ _ => rfl) (Nat.le_refl _) (fun c hc => by cases hc) h.frame (fun ok' hk' => ⟨a0, 0, rfl, by simp, by simp [maxLen], hsz, hwidth, fun hc => by omega⟩)⟩
    · simp only [Nat.zero_add, Nat.zero_mul, List.range_zero, List.map_nil, Array.empty_append] at g5 g4
      refine ⟨_, _, _, g5, finish _ _ (some cap') (by simp) (fun k hk _ => by rw [heap_alloc_old _ _ k (by simpa using hk)]; rfl) (by simp) (fun c hc => by simp) ((⟨h.frame.os, h.frame.tape, h.frame.output, h.frame.size, h.frame.blk, h.frame.cel⟩ : Frame C.wr C.w0 w.drew).alloc _)
        (fun ok' hk' => ⟨_, cap', by simp, by simpa using g2, g3, hsz, hwidth, fun _ => ⟨w.heap.size, 0, _, e, rfl, heap_alloc_new w.drew _, ?_, fun i x j c hx' hc => ?_⟩⟩)⟩
      · simp only [Array.size_append, List.size_toArray, hnl, ← hfe.size]
        rw [g4]; omega
      · simp only [List.nil_append] at hx'
        obtain ⟨u, f1, f2, f3⟩ := hnr i x j c hx' hc
        refine ⟨u, ?_, f2.mono hk' (fun _ h => h), f3⟩
        rw [Nat.zero_add, Array.getElem?_append_left (by have := (List.getElem?_eq_some_iff.1 f1).1; simpa using this)]
        simpa using f1
  · obtain ⟨b, o, cur, Tb, rfl, hh, hs, hold⟩ := hcells hc0
    have hblk : blkOf (.slice (some ⟨b, o, none⟩) ds.length cap) = some b := by cases cap with
      | zero => omega
      | succ n => rfl
    have hdl : ∀ i, i < ds.length → i * (T e).size + (T e).size ≤ ds.length * (T e).size := fun i hi => by
      have := elem_fits (off := 0) (m := (T e).size) (sz := (T e).size) hi (by omega); omega
    rcases run_append_gen (P := P) w t ty e ie (T e).zero hu hfe.info hfe.zero (by rw [hfe.zsize, hfe.size]) (some ⟨b, o, none⟩) ds.length cap h1 b o cur Tb (fun _ => ⟨rfl, hh, by rw [hfe.size]; exact hs⟩) ys.length cx ax news (by rw [hfe.size]; exact hnl) hn1' hnx h63 hbytes with ⟨g1, g2⟩ | ⟨g1, cap', rest, g2, g3, g4, g5⟩
    · obtain ⟨id, xs, e1, e2, e3⟩ := hrm b hblk
      have hsep := h.sep _ _ b e2 (.inl e3)
      rw [hfe.size] at g2
      have hcapm : (ds.length + ys.length) * (T e).size ≤ cap * (T e).size := Nat.mul_le_mul_right _ g1
      rw [Nat.add_mul] at hcapm
      have hfit : o + ds.length * (T e).size + news.length ≤ cur.size := by rw [hnl]; omega
      have same : w.setRow b (patch cur (o + ds.length * (T e).size) news) = if 0 < ys.length then w.setRow b (patch cur (o + ds.length * (T e).size) news) else w := by
        split
        · rfl
        · have hy0 : ys.length = 0 := by omega
          have : news = [] := List.eq_nil_of_length_eq_zero (by rw [hnl, hy0]; simp)
          subst this
          have : patch cur (o + ds.length * (T e).size) [] = cur := by simp [patch]
          rw [this]
          exact setRow_self w b cur Tb (0, 0) hh
      rw [← same] at g2
      have hnewrow := setRow_heap w b cur (patch cur (o + ds.length * (T e).size) news) Tb (0, 0) hh
      refine ⟨_, _, _, g2, finish _ _ none rfl (fun k _ hne => setRow_other w b k _ (hne b hblk)) (by rw [size_setRow]; exact Nat.le_refl _) (fun c hc => by cases hc)
        (setRow_frame h.frame hh (size_patch hfit) (fun hb0 o' ho => absurd (hsep.2.2 hb0 o') ho) (fun hb0 => ⟨0, hsep.2.2 hb0 0⟩))
        (fun ok' hk' => ⟨_, cap, by simp, by simpa using g1, h2, hsz, hwidth, fun _ => ⟨b, o, _, Tb, rfl, hnewrow, by rw [size_patch hfit]; exact hs, fun i x j c hx' hc => ?_⟩⟩)⟩
      have hj : j < (T e).size := by rw [← hwidth i x hx']; exact (List.getElem?_eq_some_iff.1 hc).1
      rcases Nat.lt_or_ge i ds.length with hi | hi
      · rw [List.getElem?_append_left hi] at hx'
        obtain ⟨u, f1, f2, f3⟩ := hold i x j c hx' hc
        refine ⟨u, ?_, f2.mono hk' (fun _ h => h), f3⟩
        rw [patch_out hfit (.inl (by have := hdl i hi; omega))]
        exact f1
      · rw [List.getElem?_append_right hi] at hx'
        obtain ⟨u, f1, f2, f3⟩ := hnr _ x j c hx' hc
        refine ⟨u, ?_, f2.mono hk' (fun _ h => h), f3⟩
        have : i * (T e).size = ds.length * (T e).size + (i - ds.length) * (T e).size := by rw [← Nat.add_mul]; congr 1; omega
        rw [this, show o + (ds.length * (T e).size + (i - ds.length) * (T e).size + j) = o + ds.length * (T e).size + ((i - ds.length) * (T e).size + j) by omega, patch_in hfit (List.getElem?_eq_some_iff.1 f1).1]
        exact f1
    · rw [hfe.size] at g5 g4
      refine ⟨_, _, _, g5, finish _ _ (some cap') rfl (fun k hk _ => by rw [heap_alloc_old _ _ k (by simpa using hk)]; rfl) (by simp) (fun c hc => by simp) ((⟨h.frame.os, h.frame.tape, h.frame.output, h.frame.size, h.frame.blk, h.frame.cel⟩ : Frame C.wr C.w0 w.drew).alloc _)
        (fun ok' hk' => ⟨_, cap', by simp, by simpa using g2, g3, hsz, hwidth, fun _ => ⟨w.heap.size, 0, _, e, rfl, heap_alloc_new w.drew _, ?_, fun i x j c hx' hc => ?_⟩⟩)⟩
      · simp only [Array.size_append, List.size_toArray, List.length_map, List.length_range, hnl]
        rw [Nat.add_mul] at g4
        omega
      · have hj : j < (T e).size := by rw [← hwidth i x hx']; exact (List.getElem?_eq_some_iff.1 hc).1
        rw [Nat.zero_add]
        rcases Nat.lt_or_ge i ds.length with hi | hi
        · rw [List.getElem?_append_left hi] at hx'
          obtain ⟨u, f1, f2, f3⟩ := hold i x j c hx' hc
          refine ⟨u, ?_, f2.mono hk' (fun _ h => h), f3⟩
          have := hdl i hi
          have hq : i * (T e).size + j < ds.length * (T e).size := by omega
          rw [Array.getElem?_append_left (by simp; omega), Array.getElem?_append_left (by simp; omega)]
          simp [hq, f1]
        · rw [List.getElem?_append_right hi] at hx'
          obtain ⟨u, f1, f2, f3⟩ := hnr _ x j c hx' hc
          refine ⟨u, ?_, f2.mono hk' (fun _ h => h), f3⟩
          have : i * (T e).size = ds.length * (T e).size + (i - ds.length) * (T e).size := by rw [← Nat.add_mul]; congr 1; omega
          have hlt := (List.getElem?_eq_some_iff.1 f1).1
          rw [this, Array.getElem?_append_left (by simp; omega), Array.getElem?_append_right (by simp; omega)]
          simp only [List.size_toArray, List.length_map, List.length_range, List.getElem?_toArray]
          rw [← f1]
          congr 1
          omega

end
end Go.Abs
