/- Sim: regions whose order is drawn: all orders. -/
import Derived.Test.YtjjiblgcmdbcoaaGreatDoorSimNAnd
set_option linter.unusedVariables false
set_option linter.unusedSimpArgs false
set_option linter.all false
namespace Go.Sim
open Go Go.RowKit
open Go.Abs (TE TK SK TOK TFacts patch size_patch patch_in patch_out)

section
variable {P : Program} {T : Nat → TE} {w0 : World} {ng nt : Nat} {ops : List Oper} {ms : List Nat} {rs : List Rec} {E : Nat → Tr V} {H : Nat → Tr Obj × B} {hn : Nat → List (Tr Obj × B)} {b : Nat → Bool} {v : Nat → V}

/-- One operation, whichever comes up. -/
theorem Inv.op (hC : Can P T w0 ng nt ops ms rs E H hn b v) {g0 : Gh} {hp0 : B → Option Obj} {wS : World} {listed : Array Bool} {a : Act} {w : World} {r : Nat} {g : Gh} {hp : B → Option Obj} {bl : Nat → Nat}
    (hI : Inv T w0 ng nt ops rs E H v g0 hp0 wS listed a w r g hp bl) (hst : Start rs r) {k : Nat} (hk : k ∈ Region.ready .any ops.toArray listed) {Q : Exit → Act → World → Prop} {K : Act → World → Prop}
    (hK : ∀ a' w' r' g' hp' bl', Start rs r' → Inv T w0 ng nt ops rs E H v g0 hp0 wS (listed.setIfInBounds k true) a' w' r' g' hp' bl' → K a' w') : wpOp P ops.toArray Q k K a w := by
  obtain ⟨p, x, hx, rfl, hun, hks, hat, hmask, hcl⟩ := ready_ok hC hI.size hI.closed hk
  have hpN : p < rs.length := (List.getElem?_eq_some_iff.1 hx).1
  obtain ⟨hmk, hlk, hf⟩ := hC.tf p x hx
  have hrp : ∀ {r : Nat}, (∀ (p : Nat) x, p < r → rs[p]? = some x → Lk listed x.k) → r ≤ p := fun {r} hlow => by
    rcases Nat.lt_or_ge p r with h | h
    · exact absurd (hlow p x h hx) hun
    · exact h
  -- where a chain's operation stands
  have hlow : ∀ (j : Nat) y, j < p → rs[j]? = some y → x.cl = 2 → Lk listed y.k := fun j y hj hy hc => hmask _ ((hC.pr hj hy hx).2.2.1 hc)
  unfold wpOp
  rw [hat]
  simp only
  by_cases hc : x.cl = 2
  · -- on to this position
    obtain ⟨g1, hp1, hI1⟩ := hI.advances hC (p - r) (q := p) (by have := hrp hI.low; omega) (fun j y hj hjp hy => ⟨fun e => hI.high j y hj hy e (hlow j y hjp hy hc), hlow j y hjp hy hc⟩) (by omega)
    have hAR := hI1.ar hC hx hun hmask fun j y t hj _ _ _ _ => hj
    have hw := (wd_restr hf.wd).wanted hAR hC.hd
    rw [hw]
    cases hb : b p with
    | false =>
      rw [if_neg (by simp)]
      obtain ⟨e1, e2⟩ := hf.no hb
      refine hK _ _ (p + 1) _ _ bl (.inr ⟨p, x, rfl, hx, hc⟩) (hI1.put hC hx hks hun hmask hcl (by omega) (.inl ⟨hc, rfl, rfl⟩) (g' := g1) (hp' := hp1) ?_ (by rw [e1]; exact .undef))
      rw [e2]; exact .refl hI1.step.hr hI1.step.sub
    | true =>
      rw [if_pos rfl]
      refine .inl (hf.c hb hc g1 hp1 a w hI1.step.hr hI1.step.sub (by rw [opnds_eq, ← opnds_restr (ops := ops)]; exact hAR.evals hI1.step.hr _) K Q fun g2 hp2 u w2 st hu => ?_)
      exact hK _ _ (p + 1) _ _ bl (.inr ⟨p, x, rfl, hx, hc⟩) (hI1.put hC hx hks hun hmask hcl (by omega) (.inl ⟨hc, rfl, rfl⟩) st hu)
  · have hAR := hI.ar hC hx hun hmask fun j y t hj hy h1 hd ht => by
      obtain ⟨q, c, h2, h3, h4, h5, h6⟩ := hC.lz hj hy hx h1 hd ht
      rcases h6 with rfl | h6
      · rw [hx] at h4; cases h4; exact absurd h5 hc
      · rcases Nat.lt_or_ge q r with h | h
        · omega
        · exact absurd (hmask _ h6) (hI.high q c h h4 h5)
    have hw := (wd_restr hf.wd).wanted hAR hC.hd
    rw [hw]
    have hev : RVL g (H r).2.num ((opnds x.o.op).map (opV ng (E p))) (x.o.op.operands.toList.map a.eval) := by rw [opnds_eq, ← opnds_restr (ops := ops)]; exact hAR.evals hI.step.hr _
    cases hb : b p with
    | false =>
      rw [if_neg (by simp)]
      obtain ⟨e1, e2⟩ := hf.no hb
      have hnz : x.cl ≠ 1 := fun e => by
        have hg := ((hC.one hx).2 e).1
        have := hf.wd
        unfold Wd at this
        rw [hg, hb] at this
        cases this
      exact hK _ _ r _ _ bl hst (hI.put hC hx hks hun hmask hcl hnz (.inr ⟨hc, rfl⟩) (.refl hI.step.hr hI.step.sub) (by rw [e1]; exact .undef))
    | true =>
      rw [if_pos rfl]
      left
      unfold Oper.wp
      by_cases hz : x.cl = 1
      · obtain ⟨u, ob, hrun, hreg⟩ := hf.z hb hz g (H r).2.num a.eval w hev
        rw [hrun]
        exact hK _ _ r _ _ _ hst (hI.lazy hC hx hks hun hmask hcl hz hreg)
      · have h0 : x.cl = 0 := by have := hC.cl3 p x hx; omega
        obtain ⟨u, hrun, hu⟩ := quiet_at hC hst (hrp hI.low) hI.high hx h0 hb hmask g hp a.eval w hI.step.hr hI.step.sub hev
        rw [hrun]
        exact hK _ _ r _ _ bl hst (hI.put hC hx hks hun hmask hcl hz (.inr ⟨hc, rfl⟩) (.refl hI.step.hr hI.step.sub) hu)

/-- When nothing is ready, everything is done. -/
theorem all_listed (hms : MaskOK ops ms) {listed : Array Bool} (hs : listed.size = ops.length) (h : Region.ready .any ops.toArray listed = []) : ∀ k, k < ops.length → Lk listed k := by
  obtain ⟨rk, h1, h3⟩ := hms
  have key : ∀ n k, rk k < n → k < ops.length → Lk listed k := by
    intro n
    induction n with
    | zero => intro k hk; omega
    | succ n ih =>
      intro k hn hk
      have ho : ops[k]? = some ops[k] := List.getElem?_eq_getElem hk
      have hnr : k ∉ Region.ready .any ops.toArray listed := by rw [h]; simp
      rw [mem_ready] at hnr
      unfold Lk
      cases hl : listed.getD k true with
      | true =>
        have : k < listed.size := by omega
        simpa [this] using hl
      | false =>
        refine absurd ⟨hl, ops[k], by simpa using ho, fun e he hb => ?_⟩ hnr
        have := (h3 k _ ho).1 e he hb
        exact ih e.on (by omega) this.2
  exact fun k hk => key (rk k + 1) k (by omega) hk

def unl (listed : Array Bool) : Nat := listed.toList.countP (fun x => !x)
theorem unl_set {listed : Array Bool} {k : Nat} (hk : k < listed.size) (hu : ¬ Lk listed k) : unl (listed.setIfInBounds k true) + 1 = unl listed := by
  unfold unl
  have h0 : listed.toList[k]? = some false := by
    unfold Lk at hu
    simp [hk] at hu
    simp [hk, hu]
  rw [Array.toList_setIfInBounds]
  generalize listed.toList = l at h0
  clear hu hk
  induction l generalizing k with
  | nil => simp at h0
  | cons z l ih =>
    cases k with
    | zero => simp at h0; subst h0; simp
    | succ k =>
      have := ih (k := k) (by simpa using h0)
      simp only [List.set_cons_succ, List.countP_cons]
      omega

theorem Inv.wpAny (hC : Can P T w0 ng nt ops ms rs E H hn b v) {g0 : Gh} {hp0 : B → Option Obj} {wS : World} {Q : Exit → Act → World → Prop}
    (hQ : ∀ g' hp' a' w', Step T w0 ng g0 hp0 (H 0).1 (H 0).2 wS g' hp' (H rs.length).1 (H rs.length).2 w' → AR g' (H rs.length).2.num nt (E rs.length) a' → Q .normal a' w') :
    ∀ (fuel : Nat) (listed : Array Bool) (a : Act) (w : World) (r : Nat) (g : Gh) (hp : B → Option Obj) (bl : Nat → Nat), Start rs r → Inv T w0 ng nt ops rs E H v g0 hp0 wS listed a w r g hp bl → unl listed ≤ fuel → Go.wpAny P .any ops.toArray Q fuel listed a w := by
  intro fuel
  have fin : ∀ (listed : Array Bool) (a : Act) (w : World) (r : Nat) (g : Gh) (hp : B → Option Obj) (bl : Nat → Nat), Inv T w0 ng nt ops rs E H v g0 hp0 wS listed a w r g hp bl → Region.ready .any ops.toArray listed = [] → Q .normal a w := fun listed a w r g hp bl hI hr => by
    have hall := all_listed hC.mks hI.size hr
    have hl : ∀ (j : Nat) y, rs[j]? = some y → Lk listed y.k := fun j y hy => by
      have := (hC.tf j y hy).2.2.at_
      exact hall _ (List.getElem?_eq_some_iff.1 this).1
    obtain ⟨g1, hp1, hI1⟩ := hI.advances hC (rs.length - r) (q := rs.length) (by have := hI.rN; omega) (fun j y hj _ hy => ⟨fun e => hI.high j y hj hy e (hl j y hy), hl j y hy⟩) (Nat.le_refl _)
    refine hQ g1 hp1 a w hI1.step ⟨hI1.defers, hI1.tsize, fun t u hg => ?_⟩
    exact hI1.env rs.length (Nat.le_refl _) (fun y hy => by simp at hy) t (fun y hy => by simp at hy) (fun j y hj hy _ => ⟨hl j y hy, fun _ => hj⟩) u hg
  induction fuel with
  | zero =>
    intro listed a w r g hp bl hst hI hu
    have hr : Region.ready .any ops.toArray listed = [] := by
      cases hr : Region.ready .any ops.toArray listed with
      | nil => rfl
      | cons k l =>
        obtain ⟨p, x, hx, rfl, hun, hks, _⟩ := ready_ok hC hI.size hI.closed (k := k) (by rw [hr]; simp)
        have := unl_set hks hun
        omega
    exact ⟨hr, fin listed a w r g hp bl hI hr⟩
  | succ fuel ih =>
    intro listed a w r g hp bl hst hI hu
    refine ⟨fun hr => fin listed a w r g hp bl hI hr, fun k hk => hI.op hC hst hk fun a' w' r' g' hp' bl' hst' hI' => ih _ a' w' r' g' hp' bl' hst' hI' ?_⟩
    obtain ⟨p, x, hx, rfl, hun, hks, _⟩ := ready_ok hC hI.size hI.closed hk
    have := unl_set hks hun
    omega

theorem recs_cl : ∀ {its : List DI} {rs : List Rec}, recs ops ms its = some rs → ∀ (p : Nat) x, rs[p]? = some x → x.cl < 3
  | [], rs, h, p, x, hx => by simp [recs] at h; subst h; simp at hx
  | it :: its, rs, h, p, x, hx => by
    unfold recs at h
    split at h
    case h_2 => cases h
    rename_i o m r' ho hm hr'
    simp at h
    subst h
    cases p with
    | zero => simp at hx; subst hx; cases it <;> simp [DI.cl]
    | succ p => exact recs_cl hr' p x (by simpa using hx)

/-- What is owed of a region in a canonical order. -/
def DrawD (P : Program) (T : Nat → TE) (w0 : World) (ng nt : Nat) (its : List DI) (ops : List Oper) : Prop := ∀ call, CallOK P T w0 ng call → ∀ env t nx (K : KE) r, (∀ n, R.bad n ≠ r) → runD its ops T call ng env t nx [(t, nx)] K = r →
  ∃ env' t' nx', K env' t' nx' = r ∧ ∀ id g hp a w, HR T w0 ng g hp nx w → Sub t hp → AR g nx.num nt env a → ∀ Q : Exit → Act → World → Prop,
    (∀ g' hp' a' w', Step T w0 ng g hp t nx w g' hp' t' nx' w' → AR g' nx'.num nt env' a' → Q .normal a' w') → (Code.region id ops.toArray true).wp P Q a w

/-- From the check and the facts of the run to what is known of it. -/
theorem can_of {its : List DI} (hd : ∀ o ∈ ops, ∀ d, o.dst = some d → d < nt) (hms : MaskOK ops ms) (hrs : recs ops ms its = some rs) (h1 : allP pairOk rs = true) (h2 : onesOk rs = true) (h3 : backOk [] rs = true) (h4 : coverOk ops.length rs = true)
    (e3 : hn 0 = [H 0]) (e5 : ∀ (p : Nat) x, rs[p]? = some x → ms[x.k]? = some x.mask ∧ x.looks = looksF ops x.o ∧ TFact P T w0 ng ops x (E p) (E (p + 1)) (H p) (H (p + 1)) (hn p) (hn (p + 1)) (b p) (v p)) : Can P T w0 ng nt ops ms rs E H hn b v := by
  refine ⟨h1, recs_cl hrs, h2, fun p x hx hc => ?_, fun k hk => ?_, hms, e5, hd, fun p => ?_⟩
  · have := backOk_spec (rs := rs) (r2 := rs) (r1 := []) rfl h3 p x hx hc
    simpa using this
  · have := List.all_eq_true.1 h4 k (by simpa using hk)
    obtain ⟨x, hx, hxk⟩ := List.any_eq_true.1 this
    obtain ⟨p, hp⟩ := List.getElem?_of_mem hx
    exact ⟨p, x, hp, beq_iff.1 hxk⟩
  · induction p with
    | zero => intro _; rw [e3]; rfl
    | succ p ih =>
      intro hp
      have hx : rs[p]? = some rs[p] := List.getElem?_eq_getElem (by omega)
      have hf := (e5 p _ hx).2.2
      rw [hf.hh, ih (by omega)]
      simp only [chp, hx]
      split <;> simp

/-- What is known of a run, at the region's start: any order comes out where the run did. -/
theorem Can.any (hC : Can P T w0 ng nt ops ms rs E H hn b v) {env : Tr V} {t : Tr Obj} {nx : B} (e1 : E 0 = env) (e2 : H 0 = (t, nx)) {g : Gh} {hp : B → Option Obj} {a : Act} {w : World} (g1 : HR T w0 ng g hp nx w) (g2 : Sub t hp) (g3 : AR g nx.num nt env a) {Q : Exit → Act → World → Prop}
    (hQ : ∀ g' hp' a' w', Step T w0 ng g hp t nx w g' hp' (H rs.length).1 (H rs.length).2 w' → AR g' (H rs.length).2.num nt (E rs.length) a' → Q .normal a' w') :
    Go.wpAny P .any ops.toArray Q ops.toArray.size (Array.replicate ops.toArray.size false) a { w with drawn := w.drawn + 1 } := by
  have hw1 : HR T w0 ng g hp nx { w with drawn := w.drawn + 1 } := by
    refine ⟨g1.os, g1.tape, g1.output, g1.size, g1.old, fun id o ho => ?_, g1.sep, g1.new, g1.glob, g1.ngx⟩
    obtain ⟨q1, q2⟩ := g1.obj id o ho
    refine ⟨q1, ?_⟩
    cases o <;> exact q2
  have hstart : Step T w0 ng g hp (H 0).1 (H 0).2 w g hp (H 0).1 (H 0).2 { w with drawn := w.drawn + 1 } := by
    rw [e2]
    exact .idle g1 g2 ⟨rfl, rfl, rfl, Nat.le_refl _, fun _ => Nat.le_succ _⟩ fun _ _ => rfl
  have hnl : ∀ k, ¬ Lk (Array.replicate ops.length false) k := fun k h => by
    unfold Lk at h
    by_cases hk : k < ops.length <;> simp [Array.getElem?_replicate, hk] at h
  have hI : Inv T w0 ng nt ops rs E H v g hp w (Array.replicate ops.length false) a { w with drawn := w.drawn + 1 } 0 g hp (fun _ => 0) := by
    refine ⟨Nat.zero_le _, by simp, fun j o hj => absurd hj (hnl j), fun p x hp => by omega, fun p x _ _ _ => hnl _, hstart, g3.defers, g3.size, fun p hp _ u ht hw' x hx => ?_, fun p x _ _ _ hl => absurd hl (hnl _), fun p p' x x' _ _ _ _ _ _ hl => absurd hl (hnl _)⟩
    have hk := hC.keep (t := u) (i := 0) p (Nat.zero_le _) hp fun q y _ hq hy hd => hnl _ (hw' q y hq hy hd).1
    rw [hk, e1] at hx
    rw [e2]
    exact g3.env u x hx
  have := hI.wpAny hC (Q := Q) (fun g' hp' a' w' st ha => by
    rw [e2] at st
    exact hQ g' hp' a' w' st ha) ops.length _ _ _ _ _ _ _ (.inl rfl) (by
      unfold unl
      refine Nat.le_trans List.countP_le_length ?_
      simp)
  simpa using this

/-- **The check says that the canonical run tells of every order.** -/
theorem drawOk_ok (hT : TOK P T) (hm : P.follows .mixedOrders = true) {its : List DI} (hd : ∀ o ∈ ops, ∀ d, o.dst = some d → d < nt) (h : drawOk ops its = true) : DrawD P T w0 ng nt its ops := by
  unfold drawOk at h
  split at h
  case h_2 => cases h
  rename_i ms hms
  split at h
  case h_2 => cases h
  rename_i rs hrs
  simp only [Bool.and_eq_true] at h
  obtain ⟨⟨⟨h1, h2⟩, h3⟩, h4⟩ := h
  intro call hc env t nx K r hr hrun
  obtain ⟨E, H, hn, b, v, e1, e2, e3, e4, e5⟩ := runD_tr (P := P) (w0 := w0) hT hc hr hrs h2 hrun
  exact ⟨_, _, _, e4, fun id g hp a w g1 g2 g3 Q hQ => wp_region_any hm ((can_of hd (masksA_ok hms) hrs h1 h2 h3 h4 (by rw [e3, e2]) e5).any e1 e2 g1 g2 g3 hQ)⟩
end
end Go.Sim

/- Sim: regions whose order is drawn: two operations that no edge orders. -/
namespace Go.Sim
open Go Go.RowKit
open Go.Abs (TE TK SK TOK TFacts patch size_patch patch_in patch_out)

/-- The operations one behind the other, each when it is ready. -/
def Valid (ops : Array Oper) : Array Bool → List Nat → Prop
  | listed, [] => Region.ready .any ops listed = []
  | listed, k :: l => k ∈ Region.ready .any ops listed ∧ Valid ops (listed.setIfInBounds k true) l

theorem wpAny_valid {P : Program} {ops : Array Oper} {Q : Exit → Act → World → Prop} : ∀ (ord : List Nat) (fuel : Nat) (listed : Array Bool) (a : Act) (w : World), wpAny P .any ops Q fuel listed a w → Valid ops listed ord → wpOps P ops Q ord a w
  | [], fuel, listed, a, w, h, hv => by
    cases fuel with
    | zero => exact h.2
    | succ n => exact h.1 hv
  | k :: l, fuel, listed, a, w, h, hv => by
    cases fuel with
    | zero => have h0 : k ∈ Region.ready .any ops listed := hv.1; rw [h.1] at h0; cases h0
    | succ n =>
      rw [wpOps_cons]
      exact wpOp_mono (fun a w h => wpAny_valid l n _ a w h hv.2) (h.2 k hv.1)

theorem lin_valid {ops : Array Oper} : ∀ (fuel t : Nat) (listed : Array Bool), listed.size = ops.size → unl listed ≤ fuel → Valid ops listed (Region.linearise.go .any ops fuel t listed [])
  | 0, t, listed, hs, hu => by
    show Region.ready .any ops listed = []
    cases hr : Region.ready .any ops listed with
    | nil => rfl
    | cons k l =>
      have hk : k ∈ Region.ready .any ops listed := by rw [hr]; simp
      obtain ⟨h1, o, ho, _⟩ := mem_ready.1 hk
      have hlt : k < listed.size := by rw [hs]; exact (Array.getElem?_eq_some_iff.1 ho).1
      have := unl_set hlt (fun h => by unfold Lk at h; simp [hlt] at h h1; rw [h] at h1; cases h1)
      omega
  | fuel + 1, t, listed, hs, hu => by
    unfold Region.linearise.go
    change Valid ops listed (match (Region.ready .any ops listed)[t % (Region.ready .any ops listed).length]? with
      | some i => Region.linearise.go .any ops fuel (t / (Region.ready .any ops listed).length) (listed.setIfInBounds i true) [i]
      | none => [].reverse)
    cases hi : (Region.ready .any ops listed)[t % (Region.ready .any ops listed).length]? with
    | none =>
      show Region.ready .any ops listed = []
      cases hr : Region.ready .any ops listed with
      | nil => rfl
      | cons x xs =>
        rw [hr] at hi
        have hlt : t % (x :: xs).length < (x :: xs).length := Nat.mod_lt _ (by simp)
        simp at hi
        simp at hlt
        omega
    | some i =>
      have him := List.mem_of_getElem? hi
      obtain ⟨h1, o, ho, _⟩ := mem_ready.1 him
      have hlt : i < listed.size := by rw [hs]; exact (Array.getElem?_eq_some_iff.1 ho).1
      have := unl_set hlt (fun h => by unfold Lk at h; simp [hlt] at h h1; rw [h] at h1; cases h1)
      show Valid ops listed (Region.linearise.go .any ops fuel _ (listed.setIfInBounds i true) [i])
      rw [linearise_go_acc, List.reverse_singleton, List.singleton_append]
      exact ⟨him, lin_valid fuel _ _ (by simpa using hs) (by omega)⟩

/-! one edge more -/
def addO (a : Nat) (o : Oper) : Oper := { o with after := o.after.push ⟨a, .data⟩ }
/-- 'b' waits for 'a' too. -/
def addE (ops : List Oper) (b a : Nat) : List Oper := match ops[b]? with | some o => ops.set b (addO a o) | none => ops
theorem addE_length (ops : List Oper) (b a : Nat) : (addE ops b a).length = ops.length := by
  unfold addE; split <;> simp
theorem addE_get (ops : List Oper) (b a k : Nat) : (addE ops b a)[k]? = (ops[k]?).map fun o => if k = b then addO a o else o := by
  unfold addE
  split
  · rename_i o ho
    rw [List.getElem?_set]
    have hlt : b < ops.length := (List.getElem?_eq_some_iff.1 ho).1
    split
    · rename_i e
      subst e
      simp [hlt, ho]
      have := List.getElem?_eq_some_iff.1 ho
      rw [this.2]
    · rename_i e
      have : ¬ k = b := fun h => e h.symm
      cases hk : ops[k]? <;> simp [this]
  · rename_i ho
    cases hk : ops[k]? with
    | none => rfl
    | some o =>
      have : ¬ k = b := fun h => by rw [h, ho] at hk; cases hk
      simp [this]
theorem ready_addE {ops : List Oper} {b a : Nat} {listed : Array Bool} {k : Nat} : k ∈ Region.ready .any (addE ops b a).toArray listed ↔ k ∈ Region.ready .any ops.toArray listed ∧ (k = b → listed.getD a false = true) := by
  rw [mem_ready, mem_ready]
  simp only [List.getElem?_toArray, addE_get]
  cases hk : ops[k]? with
  | none => simp
  | some o =>
    simp only [Option.map_some, Option.some.injEq, exists_eq_left']
    by_cases e : k = b
    · subst e
      simp only [if_true, addO, Array.mem_push]
      constructor
      · rintro ⟨h1, h2⟩
        exact ⟨⟨h1, fun e he hb => h2 e (.inl he) hb⟩, fun _ => h2 ⟨a, .data⟩ (.inr rfl) rfl⟩
      · rintro ⟨⟨h1, h2⟩, h3⟩
        refine ⟨h1, fun e he hb => ?_⟩
        rcases he with he | he
        · exact h2 e he hb
        · rw [he]; simpa using h3
    · simp only [if_neg e]
      constructor
      · rintro ⟨h1, h2⟩; exact ⟨⟨h1, h2⟩, fun h => absurd h e⟩
      · rintro ⟨⟨h1, h2⟩, _⟩; exact ⟨h1, h2⟩

theorem valid_after {ops : List Oper} {b a : Nat} : ∀ (l : List Nat) (listed : Array Bool), listed.getD a false = true → Valid ops.toArray listed l → Valid (addE ops b a).toArray listed l
  | [], listed, ha, h => by
    show Region.ready .any (addE ops b a).toArray listed = []
    have h : Region.ready .any ops.toArray listed = [] := h
    cases hr : Region.ready .any (addE ops b a).toArray listed with
    | nil => rfl
    | cons k l =>
      have := (ready_addE (listed := listed) (k := k)).1 (by rw [hr]; simp)
      rw [h] at this
      cases this.1
  | k :: l, listed, ha, h => ⟨ready_addE.2 ⟨h.1, fun _ => ha⟩, valid_after l _ (getD_set_true ha) h.2⟩

theorem valid_split {ops : List Oper} {a b : Nat} (hab : a ≠ b) : ∀ (l : List Nat) (listed : Array Bool), listed.size = ops.length → Valid ops.toArray listed l → Valid (addE ops b a).toArray listed l ∨ Valid (addE ops a b).toArray listed l
  | [], listed, _, h => by
    left
    show Region.ready .any (addE ops b a).toArray listed = []
    have h : Region.ready .any ops.toArray listed = [] := h
    cases hr : Region.ready .any (addE ops b a).toArray listed with
    | nil => rfl
    | cons k l =>
      have := (ready_addE (listed := listed) (k := k)).1 (by rw [hr]; simp)
      rw [h] at this
      cases this.1
  | k :: l, listed, hs, h => by
    obtain ⟨h1, o, ho, _⟩ := mem_ready.1 h.1
    have hlt : k < listed.size := by
      have := (Array.getElem?_eq_some_iff.1 ho).1
      rw [hs]; simpa using this
    have hset : (listed.setIfInBounds k true).getD k false = true := by simp [hlt]
    by_cases e : k = a
    · subst e
      exact .inl ⟨ready_addE.2 ⟨h.1, fun e => absurd e hab⟩, valid_after l _ hset h.2⟩
    · by_cases e' : k = b
      · subst e'
        exact .inr ⟨ready_addE.2 ⟨h.1, fun e2 => absurd e2 e⟩, valid_after l _ hset h.2⟩
      · rcases valid_split hab l _ (by simpa using hs) h.2 with h2 | h2
        · exact .inl ⟨ready_addE.2 ⟨h.1, fun h => absurd h e'⟩, h2⟩
        · exact .inr ⟨ready_addE.2 ⟨h.1, fun h => absurd h e⟩, h2⟩

theorem wpOps_addE {P : Program} {ops : List Oper} {b a : Nat} {Q : Exit → Act → World → Prop} : ∀ (l : List Nat) (act : Act) (w : World), wpOps P (addE ops b a).toArray Q l act w → wpOps P ops.toArray Q l act w
  | [], act, w, h => h
  | k :: l, act, w, h => by
    rw [wpOps_cons] at h ⊢
    have hy : ∀ tm, yielded (addE ops b a).toArray tm = yielded ops.toArray tm := fun tm => by
      funext j
      unfold yielded
      simp only [List.getElem?_toArray, addE_get]
      cases hj : ops[j]? with
      | none => rfl
      | some o =>
        have : (if j = b then addO a o else o).dst = o.dst := by split <;> rfl
        simp only [Option.map_some, Option.bind_some, this]
    refine wpOp_mono (K := wpOps P (addE ops b a).toArray Q l) (fun a' w h => wpOps_addE (a := a) (b := b) l a' w h) ?_
    unfold wpOp at h ⊢
    rw [hy] at h
    simp only [List.getElem?_toArray, addE_get] at h ⊢
    cases hk : ops[k]? with
    | none => rw [hk] at h; exact h
    | some o =>
      rw [hk] at h
      simp only [Option.map_some] at h ⊢
      by_cases e : k = b
      · rw [if_pos e] at h; exact h
      · rw [if_neg e] at h; exact h

/-- Two operations that no edge orders: whichever comes first. -/
theorem wp_region_split {P : Program} (hm : P.follows .mixedOrders = true) {ops : List Oper} {a b : Nat} (hab : a ≠ b) {id : Nat} {Q : Exit → Act → World → Prop} {act : Act} {w : World}
    (h1 : wpAny P .any (addE ops b a).toArray Q (addE ops b a).toArray.size (Array.replicate (addE ops b a).toArray.size false) act { w with drawn := w.drawn + 1 })
    (h2 : wpAny P .any (addE ops a b).toArray Q (addE ops a b).toArray.size (Array.replicate (addE ops a b).toArray.size false) act { w with drawn := w.drawn + 1 }) : (Code.region id ops.toArray true).wp P Q act w :=
  wp_region_draw fun t => by
    simp only [Region.schedule, hm, Bool.true_or, if_true]
    have hu : unl (Array.replicate ops.toArray.size false) ≤ ops.toArray.size := by
      unfold unl
      exact Nat.le_trans List.countP_le_length (by simp)
    have hv : Valid ops.toArray (Array.replicate ops.toArray.size false) (Region.linearise .any ops.toArray t) := lin_valid (ops := ops.toArray) ops.toArray.size t _ (by simp) hu
    have e1 : (addE ops b a).toArray.size = ops.toArray.size := by simp [addE_length]
    have e2 : (addE ops a b).toArray.size = ops.toArray.size := by simp [addE_length]
    rw [e1] at h1
    rw [e2] at h2
    rcases valid_split hab _ _ (by simp) hv with h | h
    · exact wpOps_addE _ _ _ (wpAny_valid _ _ _ _ _ h1 h)
    · exact wpOps_addE _ _ _ (wpAny_valid _ _ _ _ _ h2 h)
end Go.Sim

/- Sim: regions whose order is drawn: the trace with the heaps of the phases. -/
namespace Go.Sim
open Go Go.RowKit
open Go.Abs (TE TK SK TOK TFacts patch size_patch patch_in patch_out)

section
variable {P : Program} {T : Nat → TE} {w0 : World} {ng : Nat}

/-- What a store leaves. -/
noncomputable def stO (sz hi off : Nat) (v : V) (cs : Tr V) : Obj := .blk false sz (max hi (off + (cellsOf v).length)) (putN (cellsOf v) cs off)
/-- A store's step, to the letter. -/
def SFact (ng : Nat) (k cl : Nat) (o : Oper) (env : Tr V) (h h' : Tr Obj × B) (b : Bool) : Prop := cl = 2 → b = true → ∀ ty x y, o.op = .store ty x y →
  ∃ id off v sz hi cs, (opnds o.op).map (opV ng env) = [.ptr id off, v] ∧ id.get h.1 = some (.blk false sz hi cs) ∧ h' = (id.put h.1 (some (stO sz hi off v cs)), h.2)

/-- A step of a run, of an item. -/
def IFact (P : Program) (T : Nat → TE) (w0 : World) (ng : Nat) (all : List Oper) (it : DI) (env env' : Tr V) (h h' : Tr Obj × B) (hs hs' : List (Tr Obj × B)) (b : Bool) (v : V) : Prop :=
  ∃ o, TFact P T w0 ng all ⟨it.k, it.cl, it.back, o, [], 0⟩ env env' h h' hs hs' b v ∧ SFact ng it.k it.cl o env h h' b

theorem hStore_eq {ty : Nat} {call : Cl} {vals : List V} {t : Tr Obj} {nx : B} {K : KV} {r : R} (hr : ∀ n, R.bad n ≠ r) (h : hStore ty T call vals t nx K = r) :
    ∃ id off v sz hi cs, vals = [.ptr id off, v] ∧ id.get t = some (.blk false sz hi cs) ∧ ∀ K' : KV, hStore ty T call vals t nx K' = K' .any (id.put t (some (stO sz hi off v cs))) nx := by
  obtain ⟨p, v, rfl, k1⟩ := l2_ok h (hr _)
  obtain ⟨id, off, rfl, k2⟩ := asPtr_ok k1 (hr _)
  obtain ⟨hb, k3⟩ := ite'_ok k2 (hr _)
  obtain ⟨sz, hi, cs, hg, hfit, h1, k4⟩ := putCs_ok k3 (hr _)
  refine ⟨id, off, v, sz, hi, cs, rfl, hg, fun K' => ?_⟩
  show ite' (and (Abs.TE.known (T ty)) (Nat.beq (T ty).size (cellsOf v).length)) (putCs id off (cellsOf v) t (fun t' => K' .any t' nx) (.bad 5)) (.bad 6) = _
  rw [ite'_eq, if_pos hb]
  unfold putCs asBlk
  rw [hg]
  show ite' false (R.bad 5) (forceN (off + (cellsOf v).length) fun en => ite' (and (Nat.ble en sz) (List.all (cellsOf v) one)) (setN (cellsOf v) cs off fun cs' => forceN (Nat.max hi en) fun hi' => id.setK t (some (.blk false sz hi' cs')) fun t' => K' .any t' nx) (.bad 5)) = _
  rw [ite'_eq, if_neg (by simp), forceN_eq, ite'_eq, if_pos (by rw [ble_iff.2 hfit, h1]; rfl), setN_eq, forceN_eq, B.setK_eq]
  rfl

theorem opH_st (hT : TOK P T) {o : Oper} {ty : Nat} {x y : Operand} (ho : o.op = .store ty x y) {call : Cl} (hc : CallOK P T w0 ng call) {vals : List V} {t : Tr Obj} {nx : B} {K : KV} {r : R} (hr : ∀ n, R.bad n ≠ r) (h : opH o.op ng T call vals t nx K = r) :
    ∃ v t' nx', K v t' nx' = r ∧ OpT P T w0 ng o vals t nx v t' nx' ∧ ∃ id off v sz hi cs, vals = [.ptr id off, v] ∧ id.get t = some (.blk false sz hi cs) ∧ (t', nx') = (id.put t (some (stO sz hi off v cs)), nx) := by
  have h' : hStore ty T call vals t nx K = r := by rw [ho] at h; exact h
  obtain ⟨id, off, v, sz, hi, cs, e1, e2, e3⟩ := hStore_eq hr h'
  have k1 : opH o.op ng T call vals t nx (fun _ t nx => .ok .nrm .lf t nx) = .ok .nrm .lf (id.put t (some (stO sz hi off v cs))) nx := by
    have := e3 (fun _ t nx => .ok .nrm .lf t nx)
    rw [ho]; exact this
  obtain ⟨v', t', nx', k2, k3⟩ := opH_ok (P := P) (w0 := w0) hT o call hc _ _ _ _ _ (fun n => bad_ne) k1
  cases k2
  have k4 : K .any (id.put t (some (stO sz hi off v cs))) nx = r := by rw [← h', e3]
  refine ⟨.any, _, _, k4, fun g hp a w g1 g2 g3 K' Q hk => ?_, id, off, v, sz, hi, cs, e1, e2, rfl⟩
  exact k3 g hp a w g1 g2 g3 K' Q fun g' hp' u w' st _ => hk g' hp' u w' st (.any _)

/-- What a check of the items says of one. -/
def ItOk (all : List Oper) (it : DI) : Prop := ∀ o, all[it.k]? = some o → (it.cl = 0 → isQ o.op = true) ∧ (it.cl = 1 → isLz o.op = true)

theorem runDh_tr (hT : TOK P T) {call : Cl} (hc : CallOK P T w0 ng call) {all : List Oper} {K : Tr V → Tr Obj → B → List (Tr Obj × B) → R} {r : R} (hr : ∀ n, R.bad n ≠ r) : ∀ {its : List DI} {env : Tr V} {t : Tr Obj} {nx : B} {hs : List (Tr Obj × B)}, (∀ it ∈ its, ItOk all it) →
    runDh its all T call ng env t nx hs K = r → ∃ (E : Nat → Tr V) (H : Nat → Tr Obj × B) (hn : Nat → List (Tr Obj × B)) (b : Nat → Bool) (v : Nat → V), E 0 = env ∧ H 0 = (t, nx) ∧ hn 0 = hs ∧ K (E its.length) (H its.length).1 (H its.length).2 (hn its.length) = r ∧
      ∀ (p : Nat) it, its[p]? = some it → IFact P T w0 ng all it (E p) (E (p + 1)) (H p) (H (p + 1)) (hn p) (hn (p + 1)) (b p) (v p)
  | [], env, t, nx, hs, _, h => ⟨fun _ => env, fun _ => (t, nx), fun _ => hs, fun _ => true, fun _ => .undef, rfl, rfl, rfl, h, fun p x hx => by simp at hx⟩
  | it :: its, env, t, nx, hs, hone, h => by
    have hx := hone it (by simp)
    have hrest : ∀ it ∈ its, ItOk all it := fun i hi => hone i (by simp [hi])
    have go : ∀ (env1 : Tr V) (t1 : Tr Obj) (nx1 : B) (hs1 : List (Tr Obj × B)) (b1 : Bool) (v1 : V), runDh its all T call ng env1 t1 nx1 hs1 K = r → IFact P T w0 ng all it env env1 (t, nx) (t1, nx1) hs hs1 b1 v1 →
        ∃ (E : Nat → Tr V) (H : Nat → Tr Obj × B) (hn : Nat → List (Tr Obj × B)) (b : Nat → Bool) (v : Nat → V), E 0 = env ∧ H 0 = (t, nx) ∧ hn 0 = hs ∧ K (E (its.length + 1)) (H (its.length + 1)).1 (H (its.length + 1)).2 (hn (its.length + 1)) = r ∧
          ∀ (p : Nat) x, (it :: its)[p]? = some x → IFact P T w0 ng all x (E p) (E (p + 1)) (H p) (H (p + 1)) (hn p) (hn (p + 1)) (b p) (v p) := fun env1 t1 nx1 hs1 b1 v1 hrun hf => by
      obtain ⟨E, H, hn, b, v, e1, e2, e3, e4, e5⟩ := runDh_tr hT hc hr hrest hrun
      refine ⟨cons0 env E, cons0 (t, nx) H, cons0 hs hn, cons0 b1 b, cons0 v1 v, rfl, rfl, rfl, e4, fun p x hxp => ?_⟩
      cases p with
      | zero =>
        simp at hxp
        subst hxp
        show IFact P T w0 ng all _ env (E 0) (t, nx) (H 0) hs (hn 0) b1 v1
        rw [e1, e2, e3]; exact hf
      | succ p => exact e5 p x (by simpa using hxp)
    cases it with
    | q k back =>
      obtain ⟨o', q1, q2⟩ := nthK_ok (show nthK k all _ _ = r from h) (hr _)
      have hq : isQ o'.op = true := (hx o' q1).1 rfl
      obtain ⟨b, hw, h1, h2⟩ := stepG_ok hr q2
      cases b with
      | false => exact go _ _ _ _ false .undef (h2 rfl) ⟨o', ⟨q1, hw, rfl, fun _ => ⟨rfl, rfl⟩, rfl, fun e => (by cases e), fun e => (by cases e), fun e => (by cases e)⟩, fun e => (by cases e)⟩
      | true =>
        obtain ⟨v, k1, k2⟩ := atAll_ok (opH_q (P := P) (w0 := w0) (ng := ng) hT o' hq) hc hr (h1 rfl)
        exact go _ _ _ _ true v k1 ⟨o', ⟨q1, hw, rfl, fun e => (by cases e), rfl, fun _ _ => ⟨rfl, k2⟩, fun _ e => (by cases e), fun _ e => (by cases e)⟩, fun e => (by cases e)⟩
    | z k =>
      obtain ⟨o', q1, q2⟩ := nthK_ok (show nthK k all _ _ = r from h) (hr _)
      have hz : isLz o'.op = true := (hx o' q1).2 rfl
      obtain ⟨b, hw, h1, h2⟩ := stepG_ok hr q2
      cases b with
      | false => exact go _ _ _ _ false .undef (h2 rfl) ⟨o', ⟨q1, hw, rfl, fun _ => ⟨rfl, rfl⟩, rfl, fun e => (by cases e), fun e => (by cases e), fun e => (by cases e)⟩, fun e => (by cases e)⟩
      | true =>
        obtain ⟨v, t1, nx1, k1, k2⟩ := opH_lz (P := P) (w0 := w0) hT o' hz hr (h1 rfl)
        exact go _ _ _ _ true v k1 ⟨o', ⟨q1, hw, rfl, fun e => (by cases e), rfl, fun _ e => (by cases e), fun _ _ => k2, fun _ e => (by cases e)⟩, fun e => (by cases e)⟩
    | c k =>
      obtain ⟨o', q1, q2⟩ := nthK_ok (show nthK k all _ _ = r from h) (hr _)
      obtain ⟨b, hw, h1, h2⟩ := stepG_ok hr q2
      cases b with
      | false => exact go _ _ _ _ false .undef (h2 rfl) ⟨o', ⟨q1, hw, rfl, fun _ => ⟨rfl, rfl⟩, rfl, fun e => (by cases e), fun e => (by cases e), fun e => (by cases e)⟩, fun _ e => (by cases e)⟩
      | true =>
        by_cases hst : ∃ ty x y, o'.op = .store ty x y
        · obtain ⟨ty, x, y, ho⟩ := hst
          obtain ⟨v, t1, nx1, k1, k2, k3⟩ := opH_st (P := P) (w0 := w0) hT ho hc hr (h1 rfl)
          exact go _ _ _ _ true v k1 ⟨o', ⟨q1, hw, rfl, fun e => (by cases e), rfl, fun _ e => (by cases e), fun _ e => (by cases e), fun _ _ => k2⟩, fun _ _ _ _ _ _ => k3⟩
        · obtain ⟨v, t1, nx1, k1, k2⟩ := opH_ok (P := P) (w0 := w0) hT o' call hc _ _ _ _ r hr (h1 rfl)
          exact go _ _ _ _ true v k1 ⟨o', ⟨q1, hw, rfl, fun e => (by cases e), rfl, fun _ e => (by cases e), fun _ e => (by cases e), fun _ _ => k2⟩, fun _ _ ty x y ho => absurd ⟨ty, x, y, ho⟩ hst⟩
    | f m n a b => exact absurd h (hr _)
end
end Go.Sim

/- Sim: regions whose order is drawn: two stores that no edge orders; the check in full. -/
namespace Go.Sim
open Go Go.RowKit
open Go.Abs (TE TK SK TOK TFacts patch size_patch patch_in patch_out)

def chainsD : List DI → List Nat
  | [] => []
  | .c k :: l => k :: chainsD l
  | .q _ _ :: l => chainsD l
  | .z _ :: l => chainsD l
  | .f _ _ _ _ :: l => chainsD l
def noZ (l : List DI) : Bool := l.all fun it => match it with | .q _ _ => true | .c _ => true | _ => false
def stOk (ops : List Oper) (k : Nat) : Bool := match ops[k]? with
  | some o => o.guard.isNone && (o.dst.isNone && (match o.op with | .store _ _ _ => true | _ => false))
  | none => false
def noW (ops : List Oper) (ts : List Nat) (l : List DI) : Bool := l.all fun j => match ops[j.k]? with | some oj => !(hitB oj.dst ts) | none => false
def stab (ops : List Oper) : List DI → Bool
  | [] => true
  | it :: l => (match it with | .c k => (match ops[k]? with | some o => noW ops (tmpsOf (opnds o.op)) l | none => false) | _ => true) && stab ops l
def two (a b : Nat) : List Nat → Bool
  | [x, y] => Nat.beq x a && Nat.beq y b
  | _ => false
def forkOk (ops : List Oper) (m n a b : Nat) (rest : List DI) : Bool :=
  (!(Nat.beq a b) && (stOk ops a && stOk ops b)) && ((noZ ((rest.drop m).take n) && noZ ((rest.drop m).drop n)) && ((two a b (chainsD ((rest.drop m).take n)) && two b a (chainsD ((rest.drop m).drop n))) &&
    ((stab ops ((rest.drop m).take n) && stab ops ((rest.drop m).drop n)) && (drawOk (addE ops b a) (rest.take m ++ (rest.drop m).take n) && drawOk (addE ops a b) (rest.take m ++ (rest.drop m).drop n)))))
/-- The check of a drawn region. -/
def drawA (ops : List Oper) (its : List DI) : Bool := match its with
  | .f m n a b :: rest => forkOk ops m n a b rest
  | its => drawOk ops its

def glue {α : Type} (n : Nat) (f g : Nat → α) : Nat → α := fun p => if p < n then f p else g (p - n)
theorem glue_le {α : Type} {n : Nat} {f g : Nat → α} (h : g 0 = f n) {p : Nat} (hp : p ≤ n) : glue n f g p = f p := by
  unfold glue
  split
  · rfl
  · have : p = n := by omega
    subst this
    rw [Nat.sub_self, h]
theorem glue_ge {α : Type} {n : Nat} {f g : Nat → α} {p : Nat} (hp : n ≤ p) : glue n f g p = g (p - n) := by
  unfold glue
  rw [if_neg (by omega)]

theorem recs_spec {all : List Oper} {ms : List Nat} : ∀ {its : List DI} {rs : List Rec}, recs all ms its = some rs → rs.length = its.length ∧ ∀ (p : Nat) x, rs[p]? = some x → ∃ it, its[p]? = some it ∧ x.k = it.k ∧ x.cl = it.cl ∧ x.back = it.back ∧ all[it.k]? = some x.o ∧ ms[it.k]? = some x.mask ∧ x.looks = looksF all x.o
  | [], rs, h => by simp [recs] at h; subst h; exact ⟨rfl, fun p x hx => by simp at hx⟩
  | it :: its, rs, h => by
    unfold recs at h
    split at h
    case h_2 => cases h
    rename_i o m r' ho hm hr'
    simp at h
    subst h
    obtain ⟨h1, h2⟩ := recs_spec hr'
    refine ⟨by simp [h1], fun p x hx => ?_⟩
    cases p with
    | zero => simp at hx; subst hx; exact ⟨it, rfl, rfl, rfl, rfl, ho, hm, rfl⟩
    | succ p => exact h2 p x (by simpa using hx)

theorem onesOk_get : ∀ {rs : List Rec}, onesOk rs = true → ∀ (p : Nat) x, rs[p]? = some x → (x.cl = 0 → isQ x.o.op = true) ∧ (x.cl = 1 → isLz x.o.op = true)
  | [], _, p, x, h => by simp at h
  | z :: rs, h, p, x, hx => by
    simp only [onesOk, Bool.and_eq_true] at h
    cases p with
    | zero =>
      simp at hx
      subst hx
      have h1 := h.1
      unfold oneOk at h1
      refine ⟨fun hc => by rw [hc] at h1; exact h1, fun hc => ?_⟩
      rw [hc] at h1
      simp only [Bool.and_eq_true] at h1
      exact h1.1.1
    | succ p => exact onesOk_get h.2 p x (by simpa using hx)

theorem drawOk_spec {ops : List Oper} {its : List DI} (h : drawOk ops its = true) : ∃ ms rs, MaskOK ops ms ∧ recs ops ms its = some rs ∧ allP pairOk rs = true ∧ onesOk rs = true ∧ backOk [] rs = true ∧ coverOk ops.length rs = true := by
  unfold drawOk at h
  split at h
  case h_2 => cases h
  rename_i ms hms
  split at h
  case h_2 => cases h
  rename_i rs hrs
  simp only [Bool.and_eq_true] at h
  obtain ⟨⟨⟨h1, h2⟩, h3⟩, h4⟩ := h
  exact ⟨ms, rs, masksA_ok hms, hrs, h1, h2, h3, h4⟩

theorem itOk_of {ops : List Oper} {b a : Nat} {ms : List Nat} {its : List DI} {rs : List Rec} (hrs : recs (addE ops b a) ms its = some rs) (h1 : onesOk rs = true) : ∀ it ∈ its, ItOk ops it := fun it hit o ho => by
  obtain ⟨h2, h3⟩ := recs_spec hrs
  obtain ⟨p, hp⟩ := List.getElem?_of_mem hit
  have hlt : p < rs.length := by rw [h2]; exact (List.getElem?_eq_some_iff.1 hp).1
  obtain ⟨it', e1, e2, e3, e4, e5, e6, e7⟩ := h3 p _ (List.getElem?_eq_getElem hlt)
  rw [hp] at e1
  cases e1
  have h4 := onesOk_get h1 p _ (List.getElem?_eq_getElem hlt)
  rw [addE_get, ho] at e5
  simp at e5
  have e8 : rs[p].o.op = o.op := by rw [← e5]; split <;> rfl
  rw [e3, e8] at h4
  exact h4

section
variable {P : Program} {T : Nat → TE} {w0 : World} {ng nt : Nat}

theorem TFact.addE {ops : List Oper} {b a : Nat} {x : Rec} {o : Oper} (hx : (addE ops b a)[x.k]? = some x.o) (ho : ops[x.k]? = some o) {env env' : Tr V} {h h' : Tr Obj × B} {hs hs' : List (Tr Obj × B)} {c : Bool} {v : V}
    (hf : TFact P T w0 ng ops ⟨x.k, x.cl, x.back, o, [], 0⟩ env env' h h' hs hs' c v) : TFact P T w0 ng (Go.Sim.addE ops b a) x env env' h h' hs hs' c v := by
  have e5 := hx
  rw [addE_get, ho] at e5
  simp at e5
  have wd : ∀ o' : Oper, o'.guard = o.guard → Wd (Go.Sim.addE ops b a) ng env o' c := fun o' hg => by
    have := hf.wd
    unfold Wd at this ⊢
    simp only at this
    rw [hg]
    cases hgd : o.guard with
    | none => rw [hgd] at this; exact this
    | some p =>
      rw [hgd] at this
      obtain ⟨oj, d, h1, h2, h3⟩ := this
      refine ⟨if p.1 = b then addO a oj else oj, d, by rw [addE_get, h1]; rfl, ?_, h3⟩
      split <;> exact h2
  by_cases e : x.k = b
  · rw [if_pos e] at e5
    obtain ⟨k, cl, back, xo, looks, mask⟩ := x
    dsimp only at *
    subst e5
    exact ⟨hx, wd _ rfl, hf.en, hf.no, hf.hh, hf.q, hf.z, hf.c⟩
  · rw [if_neg e] at e5
    obtain ⟨k, cl, back, xo, looks, mask⟩ := x
    dsimp only at *
    subst e5
    exact ⟨hx, wd _ rfl, hf.en, hf.no, hf.hh, hf.q, hf.z, hf.c⟩

/-- A trace, in parts. -/
def Trc (P : Program) (T : Nat → TE) (w0 : World) (ng : Nat) (ops : List Oper) (its : List DI) (E : Nat → Tr V) (H : Nat → Tr Obj × B) (hn : Nat → List (Tr Obj × B)) (b : Nat → Bool) (v : Nat → V) : Prop :=
  ∀ (p : Nat) it, its[p]? = some it → IFact P T w0 ng ops it (E p) (E (p + 1)) (H p) (H (p + 1)) (hn p) (hn (p + 1)) (b p) (v p)

theorem Trc.glue {ops : List Oper} {l1 l2 : List DI} {E E' : Nat → Tr V} {H H' : Nat → Tr Obj × B} {hn hn' : Nat → List (Tr Obj × B)} {b b' : Nat → Bool} {v v' : Nat → V} (h1 : Trc P T w0 ng ops l1 E H hn b v) (h2 : Trc P T w0 ng ops l2 E' H' hn' b' v')
    (e1 : E' 0 = E l1.length) (e2 : H' 0 = H l1.length) (e3 : hn' 0 = hn l1.length) :
    Trc P T w0 ng ops (l1 ++ l2) (Go.Sim.glue l1.length E E') (Go.Sim.glue l1.length H H') (Go.Sim.glue l1.length hn hn') (Go.Sim.glue l1.length b b') (Go.Sim.glue l1.length v v') := fun p it hp => by
  rcases Nat.lt_or_ge p l1.length with h | h
  · rw [List.getElem?_append_left h] at hp
    rw [glue_le e1 (by omega), glue_le e1 (by omega), glue_le e2 (by omega), glue_le e2 (by omega), glue_le e3 (by omega), glue_le e3 (by omega)]
    have := h1 p it hp
    unfold Go.Sim.glue
    rw [if_pos h, if_pos h]
    exact this
  · rw [List.getElem?_append_right h] at hp
    have := h2 _ it hp
    rw [glue_ge h, glue_ge (f := E) (show l1.length ≤ p + 1 by omega), glue_ge h, glue_ge (f := H) (show l1.length ≤ p + 1 by omega), glue_ge h, glue_ge (f := hn) (show l1.length ≤ p + 1 by omega), glue_ge h, glue_ge h, show p + 1 - l1.length = p - l1.length + 1 by omega]
    exact this

theorem Trc.can {ops : List Oper} {b0 a0 : Nat} {its : List DI} {ms : List Nat} {rs : List Rec} {E : Nat → Tr V} {H : Nat → Tr Obj × B} {hn : Nat → List (Tr Obj × B)} {b : Nat → Bool} {v : Nat → V} (ht : Trc P T w0 ng ops its E H hn b v)
    (hd : ∀ o ∈ ops, ∀ d, o.dst = some d → d < nt) (hms : MaskOK (Go.Sim.addE ops b0 a0) ms) (hrs : recs (Go.Sim.addE ops b0 a0) ms its = some rs) (h1 : allP pairOk rs = true) (h2 : onesOk rs = true) (h3 : backOk [] rs = true) (h4 : coverOk (Go.Sim.addE ops b0 a0).length rs = true) (e3 : hn 0 = [H 0]) :
    Can P T w0 ng nt (Go.Sim.addE ops b0 a0) ms rs E H hn b v := by
  refine can_of (fun o ho d hdd => ?_) hms hrs h1 h2 h3 h4 e3 fun p x hx => ?_
  · obtain ⟨i, hi⟩ := List.getElem?_of_mem ho
    rw [addE_get] at hi
    cases hk : ops[i]? with
    | none => rw [hk] at hi; cases hi
    | some o' =>
      rw [hk] at hi
      simp at hi
      refine hd o' (List.mem_of_getElem? hk) d ?_
      rw [← hi] at hdd
      split at hdd <;> exact hdd
  · obtain ⟨it, e1, e2, e3, e4, e5, e6, e7⟩ := (recs_spec hrs).2 p x hx
    rw [← e2] at e5 e6
    refine ⟨e6, e7, ?_⟩
    obtain ⟨o, hf, _⟩ := ht p it e1
    have ho : ops[x.k]? = some o := by rw [e2]; exact hf.at_
    exact TFact.addE e5 ho (by rw [e2, e3, e4]; exact hf)

/-- A temporary that no item writes. -/
theorem Trc.keep {ops : List Oper} {its : List DI} {E : Nat → Tr V} {H : Nat → Tr Obj × B} {hn : Nat → List (Tr Obj × B)} {b : Nat → Bool} {v : Nat → V} (ht : Trc P T w0 ng ops its E H hn b v) {t i : Nat} (j : Nat) : i ≤ j → j ≤ its.length →
    (∀ (q : Nat) it o, i ≤ q → q < j → its[q]? = some it → ops[it.k]? = some o → o.dst ≠ some t) → (bOf t).get (E j) = (bOf t).get (E i) := by
  induction j with
  | zero => intro h1 _ _; have : i = 0 := by omega
            subst this; rfl
  | succ j ih =>
    intro h1 h2 h3
    rcases Nat.lt_or_ge j i with h | h
    · have : i = j + 1 := by omega
      subst this; rfl
    · have hj : j < its.length := by omega
      obtain ⟨o, hf, _⟩ := ht j _ (List.getElem?_eq_getElem hj)
      rw [hf.en, ← ih h (by omega) fun q it o hq hq' => h3 q it o hq (by omega)]
      have hne := h3 j _ o h (by omega) (List.getElem?_eq_getElem hj) hf.at_
      unfold putE'
      cases hd : o.dst with
      | none => simp only [hd]
      | some d =>
        simp only [hd]
        rw [B.get_put, if_neg]
        intro e
        have := bOf_inj e
        subst this
        exact hne hd

/-- The heap stays where no store stands. -/
theorem Trc.heap {ops : List Oper} {its : List DI} {E : Nat → Tr V} {H : Nat → Tr Obj × B} {hn : Nat → List (Tr Obj × B)} {b : Nat → Bool} {v : Nat → V} (ht : Trc P T w0 ng ops its E H hn b v) {i : Nat} (j : Nat) : i ≤ j → j ≤ its.length →
    (∀ (q : Nat) it, i ≤ q → q < j → its[q]? = some it → it.cl = 0) → H j = H i := by
  induction j with
  | zero => intro h1 _ _; have : i = 0 := by omega
            subst this; rfl
  | succ j ih =>
    intro h1 h2 h3
    rcases Nat.lt_or_ge j i with h | h
    · have : i = j + 1 := by omega
      subst this; rfl
    · have hj : j < its.length := by omega
      obtain ⟨o, hf, _⟩ := ht j _ (List.getElem?_eq_getElem hj)
      rw [← ih h (by omega) fun q it hq hq' => h3 q it hq (by omega)]
      cases hb : b j with
      | false => exact (hf.no hb).2
      | true => exact (hf.q hb (h3 j _ h (by omega) (List.getElem?_eq_getElem hj))).1
end

theorem chain_pos : ∀ {l : List DI} {k : Nat} {ks : List Nat}, noZ l = true → chainsD l = k :: ks → ∃ p, l[p]? = some (.c k) ∧ (∀ (q : Nat) it, q < p → l[q]? = some it → it.cl = 0) ∧ chainsD (l.drop (p + 1)) = ks ∧ noZ (l.drop (p + 1)) = true
  | [], k, ks, _, h => by simp [chainsD] at h
  | .c j :: l, k, ks, hz, h => by
    simp only [chainsD, List.cons.injEq] at h
    obtain ⟨rfl, rfl⟩ := h
    refine ⟨0, rfl, fun q it hq => by omega, rfl, ?_⟩
    simp [noZ] at hz ⊢
    exact hz
  | .q j b :: l, k, ks, hz, h => by
    obtain ⟨p, h1, h2, h3, h4⟩ := chain_pos (l := l) (by simp [noZ] at hz ⊢; exact hz) (show chainsD l = k :: ks from h)
    refine ⟨p + 1, h1, fun q it hq hi => ?_, h3, h4⟩
    cases q with
    | zero => simp at hi; subst hi; rfl
    | succ q => exact h2 q it (by omega) (by simpa using hi)
  | .z j :: l, k, ks, hz, h => by simp [noZ] at hz
  | .f _ _ _ _ :: l, k, ks, hz, h => by simp [noZ] at hz
theorem chainsD_mem : ∀ {l : List DI} {p k : Nat}, l[p]? = some (.c k) → k ∈ chainsD l
  | [], p, k, h => by simp at h
  | z :: l, p, k, h => by
    cases p with
    | zero => simp at h; subst h; simp [chainsD]
    | succ p =>
      have := chainsD_mem (l := l) (by simpa using h)
      cases z <;> simp [chainsD, this]
theorem chain_none : ∀ {l : List DI}, noZ l = true → chainsD l = [] → ∀ (q : Nat) it, l[q]? = some it → it.cl = 0
  | [], _, _, q, it, hi => by simp at hi
  | .c j :: l, _, h, q, it, hi => by simp [chainsD] at h
  | .q j b :: l, hz, h, q, it, hi => by
    cases q with
    | zero => simp at hi; subst hi; rfl
    | succ q => exact chain_none (l := l) (by simp [noZ] at hz ⊢; exact hz) h q it (by simpa using hi)
  | .z j :: l, hz, h, q, it, hi => by simp [noZ] at hz
  | .f _ _ _ _ :: l, hz, h, q, it, hi => by simp [noZ] at hz
theorem stab_spec {ops : List Oper} : ∀ {l : List DI}, stab ops l = true → ∀ (p : Nat) k o, l[p]? = some (.c k) → ops[k]? = some o → ∀ (q : Nat) it oj, p < q → l[q]? = some it → ops[it.k]? = some oj → ∀ t, t ∈ tmpsOf (opnds o.op) → oj.dst ≠ some t
  | [], _, p, k, o, h, _, _, _, _, _, _, _, _, _ => by simp at h
  | z :: l, hs, p, k, o, hp, ho, q, it, oj, hpq, hq, hoj, t, ht => fun hd => by
    simp only [stab, Bool.and_eq_true] at hs
    cases q with
    | zero => omega
    | succ q =>
      cases p with
      | zero =>
        simp at hp
        subst hp
        have h1 := hs.1
        simp only [ho, noW] at h1
        have := List.all_eq_true.1 h1 it (List.mem_of_getElem? (show l[q]? = some it by simpa using hq))
        rw [hoj] at this
        simp only [Bool.not_eq_true'] at this
        rw [hitB_iff.2 ⟨t, hd, ht⟩] at this
        cases this
      | succ p => exact stab_spec hs.2 p k o (by simpa using hp) ho q it oj (by omega) (by simpa using hq) hoj t ht hd
theorem two_spec {a b : Nat} {l : List Nat} (h : two a b l = true) : l = [a, b] := by
  unfold two at h
  split at h
  · simp only [Bool.and_eq_true] at h
    rw [beq_iff.1 h.1, beq_iff.1 h.2]
  · cases h
theorem stOk_spec {ops : List Oper} {k : Nat} (h : stOk ops k = true) : ∃ o ty x y, ops[k]? = some o ∧ o.guard = none ∧ o.dst = none ∧ o.op = .store ty x y := by
  unfold stOk at h
  split at h
  case h_2 => cases h
  rename_i o ho
  simp only [Bool.and_eq_true] at h
  obtain ⟨h1, h2, h3⟩ := h
  split at h3
  case h_2 => cases h3
  rename_i ty x y hop
  exact ⟨o, ty, x, y, ho, by simpa using h1, by simpa using h2, hop⟩
theorem eqO1_spec {a b : Option V} (h : eqO1 a b = true) : a = b := by
  cases a <;> cases b <;> first | rfl | cases h | (rw [eqW_spec h])
theorem agree_spec {all : List Oper} {e1 e2 : Tr V} : ∀ {l : List DI}, agree all l e1 e2 = true → ∀ it ∈ l, ∀ o, all[it.k]? = some o → ∀ d, o.dst = some d → (bOf d).get e1 = (bOf d).get e2
  | [], _, it, h, _, _, _, _ => by cases h
  | z :: l, h, it, hi, o, ho, d, hd => by
    obtain ⟨h1, h2⟩ := and_ok (show and (match all[z.k]? with | some o => (match o.dst with | some d => eqO1 ((bOf d).get e1) ((bOf d).get e2) | none => true) | none => false) (agree all l e1 e2) = true from h)
    rcases List.mem_cons.1 hi with rfl | hi
    · rw [ho] at h1
      simp only [hd] at h1
      exact eqO1_spec h1
    · exact agree_spec h2 it hi o ho d hd

section
variable {P : Program} {T : Nat → TE} {w0 : World} {ng nt : Nat}
theorem Step.congr {g g' : Gh} {hp hp' : B → Option Obj} {t t' t'' : Tr Obj} {nx nx' : B} {w w' : World} (h : Step T w0 ng g hp t nx w g' hp' t' nx' w') (he : ∀ id : B, id.get t'' = id.get t') : Step T w0 ng g hp t nx w g' hp' t'' nx' w' :=
  ⟨h.ext, h.le, h.hr, fun id o ho => h.sub id o (by rw [← he]; exact ho), h.fr, fun id h1 h2 => by rw [he]; exact h.dm id h1 h2, h.sz, h.dr, h.un, fun id o h1 h2 => h.pl id o (by rw [← he]; exact h1) h2, h.pl2⟩

/-- Two stores in a trace. -/
theorem Trc.two {ops : List Oper} {l : List DI} {E : Nat → Tr V} {H : Nat → Tr Obj × B} {hn : Nat → List (Tr Obj × B)} {bb : Nat → Bool} {v : Nat → V} (ht : Trc P T w0 ng ops l E H hn bb v) {a b : Nat} (hz : noZ l = true) (hc : chainsD l = [a, b]) (hs : stab ops l = true)
    (ha : stOk ops a = true) (hb : stOk ops b = true) : ∃ oa ob ida offa va sza hia csa idb offb vb szb hib csb, ops[a]? = some oa ∧ ops[b]? = some ob ∧
      (opnds oa.op).map (opV ng (E l.length)) = [.ptr ida offa, va] ∧ (opnds ob.op).map (opV ng (E l.length)) = [.ptr idb offb, vb] ∧
      ida.get (H 0).1 = some (.blk false sza hia csa) ∧ idb.get (ida.put (H 0).1 (some (stO sza hia offa va csa))) = some (.blk false szb hib csb) ∧
      H l.length = (idb.put (ida.put (H 0).1 (some (stO sza hia offa va csa))) (some (stO szb hib offb vb csb)), (H 0).2) := by
  obtain ⟨oa, tya, xa, ya, a1, a2, a3, a4⟩ := stOk_spec ha
  obtain ⟨ob, tyb, xb, yb, b1, b2, b3, b4⟩ := stOk_spec hb
  obtain ⟨pa, p1, p2, p3, p4⟩ := chain_pos hz hc
  obtain ⟨q, q1, q2, q3, q4⟩ := chain_pos p4 p3
  rw [List.getElem?_drop] at q1
  have hpa : pa < l.length := (List.getElem?_eq_some_iff.1 p1).1
  have hpb : pa + 1 + q < l.length := (List.getElem?_eq_some_iff.1 q1).1
  have ops_at : ∀ (o : Oper) (k p : Nat), l[p]? = some (.c k) → ops[k]? = some o → ∀ x ∈ opnds o.op, opV ng (E l.length) x = opV ng (E p) x := fun o k p hp ho x hx => by
    cases x with
    | tmp t =>
      simp only [opV]
      have hpl : p < l.length := (List.getElem?_eq_some_iff.1 hp).1
      have := ht.keep (t := t) (i := p) l.length (by omega) (Nat.le_refl _) fun j it oj hj hj' hit hoj => by
        rcases Nat.lt_or_ge p j with h | h
        · exact stab_spec hs p k o hp ho j it oj h hit hoj t (mem_tmpsOf hx)
        · have : j = p := by omega
          subst this
          rw [hp] at hit
          cases hit
          rw [show (DI.c k).k = k from rfl, ho] at hoj
          cases hoj
          obtain ⟨o', ty, x', y', c1, c2, c3, c4⟩ := stOk_spec (show stOk ops k = true by
            have hk : k ∈ chainsD l := chainsD_mem hp
            rw [hc] at hk
            simp at hk
            rcases hk with rfl | rfl
            · exact ha
            · exact hb)
          rw [ho] at c1
          cases c1
          rw [c3]; simp
      rw [this]
    | const v => rfl
    | global g => rfl
    | func f => rfl
  have map_at : ∀ (o : Oper) (k p : Nat), l[p]? = some (.c k) → ops[k]? = some o → (opnds o.op).map (opV ng (E l.length)) = (opnds o.op).map (opV ng (E p)) := fun o k p hp ho => List.map_congr_left (ops_at o k p hp ho)
  have on : ∀ (o : Oper) (k p : Nat), l[p]? = some (.c k) → ops[k]? = some o → o.guard = none → (∃ ty x y, o.op = .store ty x y) →
      ∃ id off v sz hi cs, (opnds o.op).map (opV ng (E p)) = [.ptr id off, v] ∧ id.get (H p).1 = some (.blk false sz hi cs) ∧ H (p + 1) = (id.put (H p).1 (some (stO sz hi off v cs)), (H p).2) := fun o k p hp ho hg ⟨ty, x, y, hst⟩ => by
    obtain ⟨o', hf, hsf⟩ := ht p _ hp
    have : o' = o := by have := hf.at_; rw [show (DI.c k).k = k from rfl] at this; simp only at this; rw [ho] at this; cases this; rfl
    subst this
    have hbt : bb p = true := by
      have := hf.wd
      unfold Wd at this
      simp only [hg] at this
      exact this
    exact hsf rfl hbt ty x y hst
  obtain ⟨ida, offa, va, sza, hia, csa, r1, r2, r3⟩ := on oa a pa p1 a1 a2 ⟨tya, xa, ya, a4⟩
  obtain ⟨idb, offb, vb, szb, hib, csb, s1, s2, s3⟩ := on ob b (pa + 1 + q) q1 b1 b2 ⟨tyb, xb, yb, b4⟩
  have h0 : H pa = H 0 := ht.heap pa (Nat.zero_le _) (by omega) fun j it _ hj hit => p2 j it hj hit
  have h1 : H (pa + 1 + q) = H (pa + 1) := ht.heap (pa + 1 + q) (by omega) (by omega) fun j it hj hj' hit => q2 (j - (pa + 1)) it (by omega) (by rw [List.getElem?_drop, show pa + 1 + (j - (pa + 1)) = j by omega]; exact hit)
  have h2 : H l.length = H (pa + 1 + q + 1) := ht.heap l.length (by omega) (Nat.le_refl _) fun j it hj hj' hit => chain_none q4 q3 (j - (pa + 1 + q + 1)) it (by
    rw [List.getElem?_drop, List.getElem?_drop, show pa + 1 + (q + 1 + (j - (pa + 1 + q + 1))) = j by omega]; exact hit)
  refine ⟨oa, ob, ida, offa, va, sza, hia, csa, idb, offb, vb, szb, hib, csb, a1, b1, by rw [map_at oa a pa p1 a1]; exact r1, by rw [map_at ob b _ q1 b1]; exact s1, by rw [← h0]; exact r2, ?_, ?_⟩
  · rw [h1, r3, h0] at s2; exact s2
  · rw [h2, s3, h1, r3, h0]

theorem forkOk_ok (hT : TOK P T) (hm : P.follows .mixedOrders = true) {ops : List Oper} {m n a b : Nat} {rest : List DI} (hd : ∀ o ∈ ops, ∀ d, o.dst = some d → d < nt) (h : forkOk ops m n a b rest = true) : DrawT P T w0 ng nt (.f m n a b :: rest) ops := by
  unfold forkOk at h
  generalize hpre : rest.take m = pre at h
  generalize hl1 : (rest.drop m).take n = l1 at h
  generalize hl2 : (rest.drop m).drop n = l2 at h
  simp only [Bool.and_eq_true, Bool.not_eq_true'] at h
  obtain ⟨⟨hab, ha, hb⟩, ⟨hz1, hz2⟩, ⟨hc1, hc2⟩, ⟨hs1, hs2⟩, hd1, hd2⟩ := h
  have hab : a ≠ b := fun e => by subst e; rw [Nat.beq_refl] at hab; cases hab
  have hc1 := two_spec hc1
  have hc2 := two_spec hc2
  obtain ⟨ms1, rs1, u1, u2, u3, u4, u5, u6⟩ := drawOk_spec hd1
  obtain ⟨ms2, rs2, v1, v2, v3, v4, v5, v6⟩ := drawOk_spec hd2
  intro call hc env t nx K r hr hrun
  have it1 := itOk_of u2 u4
  have it2 := itOk_of v2 v4
  have hrun : runF m n a b rest ops T call ng env t nx K = r := hrun
  unfold runF at hrun
  rw [hpre, hl1, hl2] at hrun
  obtain ⟨Ep, Hp, np, bp, vp, ep1, ep2, ep3, ep4, ep5⟩ := runDh_tr (P := P) (w0 := w0) hT hc hr (fun it hi => it1 it (by simp [hi])) hrun
  obtain ⟨E1, H1, n1, b1, w1, f1, f2, f3, f4, f5⟩ := runDh_tr (P := P) (w0 := w0) hT hc hr (fun it hi => it1 it (by simp [hi])) ep4
  obtain ⟨E2, H2, n2, b2, w2, k1, k2, k3, k4, k5⟩ := runDh_tr (P := P) (w0 := w0) hT hc hr (fun it hi => it2 it (by simp [hi])) f4
  obtain ⟨hchk, hK⟩ := ite'_ok k4 (hr _)
  obtain ⟨g1, hchk⟩ := and_ok hchk
  obtain ⟨g2, g3⟩ := and_ok hchk
  -- the temporaries are the same
  have henv : ∀ t, (bOf t).get (E1 l1.length) = (bOf t).get (E2 l2.length) := fun τ => by
    by_cases e1 : ∃ it ∈ l1, ∃ o, ops[it.k]? = some o ∧ o.dst = some τ
    · obtain ⟨it, hi, o, ho, hdd⟩ := e1
      exact agree_spec g1 it hi o ho τ hdd
    · by_cases e2 : ∃ it ∈ l2, ∃ o, ops[it.k]? = some o ∧ o.dst = some τ
      · obtain ⟨it, hi, o, ho, hdd⟩ := e2
        exact agree_spec g2 it hi o ho τ hdd
      · have t1 : Trc P T w0 ng ops l1 E1 H1 n1 b1 w1 := f5
        have t2 : Trc P T w0 ng ops l2 E2 H2 n2 b2 w2 := k5
        rw [t1.keep (t := τ) (i := 0) l1.length (Nat.zero_le _) (Nat.le_refl _) fun q it o _ _ hit ho hdd => e1 ⟨it, List.mem_of_getElem? hit, o, ho, hdd⟩,
          t2.keep (t := τ) (i := 0) l2.length (Nat.zero_le _) (Nat.le_refl _) fun q it o _ _ hit ho hdd => e2 ⟨it, List.mem_of_getElem? hit, o, ho, hdd⟩, f1, k1]
  have hop : ∀ x, opV ng (E1 l1.length) x = opV ng (E2 l2.length) x := fun x => by
    cases x with
    | tmp t => simp only [opV]; rw [henv]
    | const v => rfl
    | global g => rfl
    | func f => rfl
  -- the heaps are the same
  obtain ⟨oa, ob, ida, offa, va, sza, hia, csa, idb, offb, vb, szb, hib, csb, x1, x2, x3, x4, x5, x6, x7⟩ := Trc.two (P := P) (T := T) (w0 := w0) (ng := ng) f5 hz1 hc1 hs1 ha hb
  obtain ⟨ob', oa', idb', offb', vb', szb', hib', csb', ida', offa', va', sza', hia', csa', y1, y2, y3, y4, y5, y6, y7⟩ := Trc.two (P := P) (T := T) (w0 := w0) (ng := ng) k5 hz2 hc2 hs2 hb ha
  rw [x1] at y2
  rw [x2] at y1
  cases y1
  cases y2
  have hm1 : ∀ xs : List Operand, xs.map (opV ng (E1 l1.length)) = xs.map (opV ng (E2 l2.length)) := fun xs => List.map_congr_left fun x _ => hop x
  rw [← hm1, x3] at y4
  rw [← hm1, x4] at y3
  cases y3
  cases y4
  have hne : ida ≠ idb := by
    intro e
    subst e
    obtain ⟨_, tya, xa, ya, c1, _, _, c4⟩ := stOk_spec ha
    obtain ⟨_, tyb, xb, yb, d1, _, _, d4⟩ := stOk_spec hb
    rw [x1] at c1
    rw [x2] at d1
    cases c1
    cases d1
    unfold ptrAt at g3
    rw [x1, x2] at g3
    simp only [c4, d4, opK_eq] at g3
    rw [c4] at x3
    rw [d4] at x4
    simp only [opnds, List.map_cons, List.map_nil, List.cons.injEq] at x3 x4
    rw [x3.1, x4.1] at g3
    have g4 : (!(Nat.beq ida.n ida.n)) = true := g3
    rw [Nat.beq_refl] at g4
    cases g4
  have hH0 : H1 0 = H2 0 := by rw [f2, k2]
  have hget : ∀ (i j : B) (tt : Tr Obj) o, B.get i (j.put tt o) = if i = j then o else B.get i tt := fun i j tt o => B.get_put j i tt o
  rw [hget, if_neg (fun e => hne e.symm)] at x6
  rw [hget, if_neg hne] at y6
  rw [← hH0] at y5 y6 y7
  rw [x5] at y6
  rw [x6] at y5
  cases y5
  cases y6
  have hheap : ∀ id : B, id.get (H1 l1.length).1 = id.get (H2 l2.length).1 := fun id => by
    rw [x7, y7]
    simp only [hget]
    by_cases e1 : id = ida
    · rw [if_neg (fun e => hne (e1 ▸ e)), if_pos e1, if_pos e1]
    · by_cases e2 : id = idb
      · rw [if_pos e2, if_neg e1, if_pos e2]
      · rw [if_neg e2, if_neg e1, if_neg e1, if_neg e2]
  have hnx : (H1 l1.length).2 = (H2 l2.length).2 := by rw [x7, y7]
  refine ⟨E1 l1.length, (H1 l1.length).1, (H1 l1.length).2, hK, fun id g hp act w q1 q2 q3 Q hQ => wp_region_split hm hab ?_ ?_⟩
  · have tr := Trc.glue (P := P) (T := T) (w0 := w0) (ng := ng) ep5 f5 f1 (by rw [f2]) f3
    have hC := tr.can (nt := nt) hd u1 u2 u3 u4 u5 u6 (by rw [glue_le f3 (Nat.zero_le _), glue_le (by rw [f2]) (Nat.zero_le _), ep3, ep2])
    have hlen : rs1.length = pre.length + l1.length := by rw [(recs_spec u2).1, List.length_append]
    refine hC.any (env := env) (t := t) (nx := nx) (by rw [glue_le f1 (Nat.zero_le _), ep1]) (by rw [glue_le (by rw [f2]) (Nat.zero_le _), ep2]) q1 q2 q3 fun g' hp' a' w' st har => ?_
    rw [hlen, glue_ge (by omega), show pre.length + l1.length - pre.length = l1.length by omega] at st har
    rw [glue_ge (by omega), show pre.length + l1.length - pre.length = l1.length by omega] at har
    exact hQ g' hp' a' w' st har
  · have tr := Trc.glue (P := P) (T := T) (w0 := w0) (ng := ng) ep5 k5 k1 (by rw [k2]) k3
    have hC := tr.can (nt := nt) hd v1 v2 v3 v4 v5 v6 (by rw [glue_le k3 (Nat.zero_le _), glue_le (by rw [k2]) (Nat.zero_le _), ep3, ep2])
    have hlen : rs2.length = pre.length + l2.length := by rw [(recs_spec v2).1, List.length_append]
    refine hC.any (env := env) (t := t) (nx := nx) (by rw [glue_le k1 (Nat.zero_le _), ep1]) (by rw [glue_le (by rw [k2]) (Nat.zero_le _), ep2]) q1 q2 q3 fun g' hp' a' w' st har => ?_
    rw [hlen, glue_ge (by omega), show pre.length + l2.length - pre.length = l2.length by omega] at st har
    rw [glue_ge (by omega), show pre.length + l2.length - pre.length = l2.length by omega] at har
    rw [← hnx] at st har
    exact hQ g' hp' a' w' (st.congr hheap) ⟨har.defers, har.size, fun τ u hu => har.env τ u (by rw [← henv]; exact hu)⟩

/-- **The check of a drawn region is sound.** -/
theorem drawA_ok (hT : TOK P T) (hm : P.follows .mixedOrders = true) {ops : List Oper} {its : List DI} (hd : ∀ o ∈ ops, ∀ d, o.dst = some d → d < nt) (h : drawA ops its = true) : DrawT P T w0 ng nt its ops := by
  unfold drawA at h
  split at h
  · exact forkOk_ok hT hm hd h
  · rename_i hnf
    have := drawOk_ok (P := P) (T := T) (w0 := w0) (ng := ng) hT hm hd h
    intro call hc env t nx K r hr hrun
    refine this call hc env t nx K r hr ?_
    unfold runA at hrun
    split at hrun
    · rename_i m n a b rest; exact absurd rfl (hnf m n a b rest)
    · exact hrun
end
end Go.Sim
