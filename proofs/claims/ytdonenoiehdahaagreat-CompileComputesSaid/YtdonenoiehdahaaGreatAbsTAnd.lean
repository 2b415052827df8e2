/- The contract of a function that reads or writes what the caller owns, and calls by it. -/
import Derived.Test.YtdonenoiehdahaaGreatAbsWAnd
import Derived.Test.YtdonenoiehdahaaGreatAbsLAnd
import Derived.MapKept
import Derived.WideKeyRuns
import Derived.Test.YtdonenoiehdahaaGreatAbsFAnd
set_option linter.all false
namespace Go.Abs
open Go Go.RowKit
def qm:Res→Bool
 | .rows _ _ _=>false
 | _=>true
theorem Blk.plain {β:Nat→Value} {w:World} {k:Key} {r:Res} {b:Nat} (hp:qm r=true) (h:Blk β w k r b):aB (β k.1)=some b:=by
 rcases h with h | h
 ·exact h
 ·cases r<;>first | exact h.elim | cases hp
def jV (β:Nat→Value) (pre:List (Key×Res)) (b o:Nat):Prop:=
 ∃ k r,(k,r)∈pre∧aB (β k.1)=some b∧match r with | .cell _=>o=k.2 | _=>True
def resV:List V→V
 | [v]=>v
 | vs => .tuple vs
structure aH (P:Program) (f:FuncId) (U:List Nat) (as:List V) (pre:List (Key×Res)) (news:List Nat) (xs:List V) (post:List (Key×Res)):Prop where
 there:∃ fn,P.funcs[f]?=some fn∧(fn.name == "runtime.NumGoroutine")=false∧fn.body.isNone=false
 plain:∀ k r,(k,r)∈post→qm r=true
 calls:∀ (β:Nat→Value) (ok:Nat→Prop) (w:World) (vs:Array Value),GOK ok w→(∀ b,ok b→b<w.heap.size)→vs.size=as.length →
  (∀ (i:Nat) v a,vs[i]?=some v→as[i]?=some a→RdV β (fun i=>i∈U) ok w v a) →
  (∀ k r,(k,r)∈pre→k.1∈U∧Own β (fun i=>i∈U) ok w k r) →
  (∀ k r b,(k,r)∈pre→aB (β k.1)=some b→¬ ok b∧b<w.heap.size) →
  (∀ k k' r r' b,(k,r)∈pre→(k',r')∈pre→aB (β k.1)=some b→aB (β k'.1)=some b→k.1=k'.1) →
  Calls P f vs w fun e w'=>∃ v β' ok',e = .returned v∧(∀ i,i∈U→β' i=β i)∧RdV β' (fun i=>i∈U∨i∈news) ok' w' v (resV xs) ∧
   (∀ k r,(k,r)∈post→(k.1∈U∨k.1∈news)∧Own β' (fun i=>i∈U∨i∈news) ok' w' k r) ∧
   (∀ k r b,(k,r)∈post→aB (β' k.1)=some b→¬ ok' b∧b<w'.heap.size∧(b<w.heap.size→match r with | .cell _=>k.1∈U∧jV β pre b k.2 | _=>∀ o,jV β pre b o)) ∧
   (∀ k k' r r' b,(k,r)∈post→(k',r')∈post→aB (β' k.1)=some b→aB (β' k'.1)=some b→k.1=k'.1) ∧
   (∀ b,ok' b→b<w'.heap.size)∧(∀ b,ok b→ok' b)∧(∀ b,ok' b→ok b∨w.heap.size≤b∨∀ o,jV β pre b o)∧Frame (jV β pre) w w'
def aY:List (Nat×Nat)→Nat→Nat
 | [],i=>i
 | (a,b)::m,i=>match Nat.beq a i with | true=>b | false=>aY m i
def GX (m:List (Nat×Nat)):V→V
 | .ptr id off => .ptr (aY m id) off
 | .sl id sz off len => .sl (aY m id) sz off len
 | .ael id sz i off => .ael (aY m id) sz i off
 | .map id => .map (aY m id)
 | .d x => .d x
 | .aG => .aG
 | .emp => .emp
 | _ => .any
def xQ (m:List (Nat×Nat)):V→V
 | .func fn [] cs => .func fn [] (cs.map (GX m))
 | v=>GX m v
def La (m:List (Nat×Nat)):V→V
 | .agg cs => .agg (cs.map (xQ m))
 | .tuple cs => .tuple (cs.map (xQ m))
 | v=>xQ m v
def Ov (m:List (Nat×Nat)):Res→Res
 | .cell v => .cell (xQ m v)
 | r=>r
def lq (m:List (Nat×Nat)) (k:Key):Key:=(aY m k.1,k.2)
theorem RdV.aam {β β':Nat→Value} {u u' ok:Nat→Prop} {w:World} {m:List (Nat×Nat)} (hu:∀ i,u i→u' (aY m i)∧β' (aY m i)=β i) {v:Value} {x:V} (h:RdV β u ok w v x):RdV β' u' ok w v (GX m x):=by
 cases h with
 | d v x h=>exact .d _ _ h
 | aG=>exact .aG
 | emp a=>exact .emp a
 | ptr id off b h1 h2=>exact .ptr _ _ b (hu _ h1).1 ((hu _ h1).2.trans h2)
 | sl id sz off len n cap a0 a h1 h2 h3 h4 h5=>exact .sl _ _ _ _ n cap a0 a (hu _ h1).1 ((hu _ h1).2.trans h2) h3 h4 h5
 | ael id sz i off b o n cap h1 h2=>exact .ael _ _ _ _ b o n cap (hu _ h1).1 ((hu _ h1).2.trans h2)
 | map id r h1 h2=>exact .map _ r (hu _ h1).1 ((hu _ h1).2.trans h2)
 | _=>exact .any _
theorem RdV.Ox {β β':Nat→Value} {u u' ok:Nat→Prop} {w:World} {m:List (Nat×Nat)} (hu:∀ i,u i→u' (aY m i)∧β' (aY m i)=β i) {v:Value} {x:V} (h:RdV β u ok w v x):RdV β' u' ok w v (xQ m x):=by
 cases h with
 | any v=>exact .any _
 | undef=>exact .any _
 | d v x h=>exact .d _ _ h
 | aG=>exact .aG
 | emp a=>exact .emp a
 | ptr id off b h1 h2=>exact .ptr _ _ b (hu _ h1).1 ((hu _ h1).2.trans h2)
 | sl id sz off len n cap a0 a h1 h2 h3 h4 h5=>exact .sl _ _ _ _ n cap a0 a (hu _ h1).1 ((hu _ h1).2.trans h2) h3 h4 h5
 | ael id sz i off b o n cap h1 h2=>exact .ael _ _ _ _ b o n cap (hu _ h1).1 ((hu _ h1).2.trans h2)
 | map id r h1 h2=>exact .map _ r (hu _ h1).1 ((hu _ h1).2.trans h2)
 | rsl id len cap a h1 h2=>exact .any _
 | jZ id i b o n cap h1 h2=>exact .any _
 | func fn fs cs f c h1 h2 h3 h4=>
   match f,h1 with
   | [],h1=>exact .func fn fs cs [] _ h1 (by rw [h2,List.length_map]) (fun i v x _ hx=>by simp at hx) (fun i v x hv hx=>by
     simp only [List.getElem?_map,Option.map_eq_some_iff] at hx;obtain ⟨c0,hc0,rfl⟩:=hx
     exact (h4 i v c0 hv hc0).aam hu)
   | _::_,_=>exact .any _
 | agg vs cs h1 h2 h3=>exact .any _
 | tuple vs cs h1 h2=>exact .any _
theorem RdV.ren {β β':Nat→Value} {u u' ok:Nat→Prop} {w:World} {m:List (Nat×Nat)} (hu:∀ i,u i→u' (aY m i)∧β' (aY m i)=β i) {v:Value} {x:V} (h:RdV β u ok w v x):RdV β' u' ok w v (La m x):=by
 have pick:∀ (vs:Array Value) (cs:List V),(∀ (i:Nat) v c,vs[i]?=some v→cs[i]?=some c→RdV β u ok w v c)→∀ (i:Nat) v c,vs[i]?=some v→(cs.map (xQ m))[i]?=some c→RdV β' u' ok w v c:=fun vs cs hh i v c hv hc=>by
  simp only [List.getElem?_map,Option.map_eq_some_iff] at hc;obtain ⟨c0,hc0,rfl⟩:=hc;exact (hh i v c0 hv hc0).Ox hu
 cases h with
 | agg vs cs h1 h2 h3=>exact .agg _ _ (by simpa using h1) (pick _ _ h2) h3
 | tuple vs cs h1 h2=>exact .tuple _ _ (by simpa using h1) (pick _ _ h2)
 | func fn fs cs f c h1 h2 h3 h4=>exact RdV.Ox hu (.func fn fs cs f c h1 h2 h3 h4)
 | any v=>exact .any _
 | undef=>exact .any _
 | d v x h=>exact .d _ _ h
 | aG=>exact .aG
 | emp a=>exact .emp a
 | ptr id off b h1 h2=>exact RdV.Ox hu (.ptr id off b h1 h2)
 | sl id sz off len n cap a0 a h1 h2 h3 h4 h5=>exact RdV.Ox hu (.sl id sz off len n cap a0 a h1 h2 h3 h4 h5)
 | ael id sz i off b o n cap h1 h2=>exact RdV.Ox hu (.ael id sz i off b o n cap h1 h2)
 | map id r h1 h2=>exact RdV.Ox hu (.map id r h1 h2)
 | rsl id len cap a h1 h2=>exact .any _
 | jZ id i b o n cap h1 h2=>exact .any _
theorem Own.ren {β β':Nat→Value} {u u' ok:Nat→Prop} {w:World} {m:List (Nat×Nat)} (hu:∀ i,u i→u' (aY m i)∧β' (aY m i)=β i) {k:Key} {r:Res} (hp:qm r=true) (hk:u k.1) (h:Own β u ok w k r):Own β' u' ok w (lq m k) (Ov m r):=by
 have e:=(hu _ hk).2;cases r with
 | cell x=>
   obtain ⟨b,c,T,v,h1,h2,h3,h4,h5⟩:=h;exact ⟨b,c,T,v,e.trans h1,h2,h3,h4,h5.Ox hu⟩
 | arr sz xs=>exact ⟨h.1,by show bT ok w (β' (aY m k.1)) sz xs;rw [e];exact h.2⟩
 | map es=>exact ⟨h.1,by show P7 ok w (β' (aY m k.1)) es;rw [e];exact h.2⟩
 | rows sz rs out=>cases hp
def Y1 (m:List (Nat×Nat)) (h:Key→Option Res):List (Key×Res)→Prop→Prop
 | [],p=>p
 | (k,r)::pre,p=>h (lq m k)=some (Ov m r)∧Y1 m h pre p
theorem Ho {m:List (Nat×Nat)} {h:Key→Option Res}:∀ {pre:List (Key×Res)} {p:Prop},Y1 m h pre p→(∀ k r,(k,r)∈pre→h (lq m k)=some (Ov m r))∧p
 | [],p,hp=>⟨(fun k r hk=>by cases hk),hp⟩
 | (k0,r0)::pre,p,hp=>by
   obtain ⟨h1,h2⟩:=hp;obtain ⟨h3,h4⟩:=Ho h2
   exact ⟨fun k r hk=>by
    rcases List.mem_cons.1 hk with hk | hk
    ·cases hk;exact h1
    ·exact h3 k r hk,h4⟩
def inN (i:Nat):List Nat→Bool
 | []=>false
 | x::xs=>match Nat.beq i x with | true=>true | false=>inN i xs
theorem nN {i:Nat}:∀ {l:List Nat},inN i l=true↔i∈l
 | []=>by simp [inN]
 | x::xs=>by
   unfold inN;cases hb:Nat.beq i x with
   | true=>simp [Nat.eq_of_beq_eq_true hb]
   | false=>
     have hne:i≠x:=fun e=>by rw [e,Nat.beq_refl] at hb;cases hb
     simp [hne,nN (l:=xs)]
def Jq (m:List (Nat×Nat)) (U news nw:List Nat):Bool:=
 (U++news).all (fun i=>m.any fun e=>Nat.beq e.1 i)&&news.all (fun i=>inN (aY m i) nw&&!inN i U)&&nw.all (fun j=>news.any fun i=>Nat.beq (aY m i) j) &&
 U.all (fun i=>!inN (aY m i) nw)&&(U++news).all (fun i=>(U++news).all fun j=>Nat.beq i j||!Nat.beq (aY m i) (aY m j))
def xY (m:List (Nat×Nat)):List (Key×Res)→List (Key×Option Res)
 | []=>[]
 | (k,r)::post=>(lq m k,some (Ov m r))::xY m post
def FQ (m:List (Nat×Nat)):List (Key×Res)→List (Key×Option Res)
 | []=>[]
 | (k,_)::pre=>(lq m k,none)::FQ m pre
theorem uG {m:List (Nat×Nat)} {k:Key} {r:Option Res}:∀ {post:List (Key×Res)},(k,r)∈xY m post↔∃ k0 r0,(k0,r0)∈post∧k=lq m k0∧r=some (Ov m r0)
 | []=>by simp [xY]
 | (k1,r1)::post=>by
   simp only [xY,List.mem_cons,uG (post:=post),Prod.mk.injEq];constructor
   ·rintro (⟨h1,h2⟩ | ⟨k0,r0,h1,h2⟩)
    ·exact ⟨k1,r1,.inl ⟨rfl,rfl⟩,h1,h2⟩
    ·exact ⟨k0,r0,.inr h1,h2⟩
   ·rintro ⟨k0,r0,⟨rfl,rfl⟩ | h1,h2⟩
    ·exact .inl h2
    ·exact .inr ⟨k0,r0,h1,h2⟩
theorem pI {m:List (Nat×Nat)} {k:Key} {r:Option Res}:∀ {pre:List (Key×Res)},(k,r)∈FQ m pre↔∃ k0 r0,(k0,r0)∈pre∧k=lq m k0∧r=none
 | []=>by simp [FQ]
 | (k1,r1)::pre=>by
   simp only [FQ,List.mem_cons,pI (pre:=pre),Prod.mk.injEq];constructor
   ·rintro (⟨h1,h2⟩ | ⟨k0,r0,h1,h2⟩)
    ·exact ⟨k1,r1,.inl ⟨rfl,rfl⟩,h1,h2⟩
    ·exact ⟨k0,r0,.inr h1,h2⟩
   ·rintro ⟨k0,r0,⟨rfl,rfl⟩ | h1,h2⟩
    ·exact .inl h2
    ·exact .inr ⟨k0,r0,h1,h2⟩
def JD (U:List Nat):V→Bool
 | .d _ | .aG | .emp | .any=>true
 | .ptr id _=>inN id U
 | .sl id _ _ _=>inN id U
 | .ael id _ _ _=>inN id U
 | .map id=>inN id U
 | _=>false
def sO (U:List Nat):V→Bool
 | .func _ [] cs=>cs.all (JD U)
 | v=>JD U v
def Yw (U:List Nat):V→Bool
 | .agg cs=>cs.all (sO U)
 | .tuple cs=>cs.all (sO U)
 | v=>sO U v
def Aq (U:List Nat):List (Key×Res)→Bool
 | []=>true
 | (k,.cell v)::pre=>inN k.1 U&&sO U v&&Aq U pre
 | (_,.rows _ _ _)::_=>false
 | (k,_)::pre=>inN k.1 U&&Aq U pre
theorem RdV.TR {β:Nat→Value} {u ok:Nat→Prop} {w:World} {m:List (Nat×Nat)} {U:List Nat} {v:Value} {x:V} (hx:JD U x=true) (h:RdV β u ok w v (GX m x)):RdV (fun i=>β (aY m i)) (fun i=>i∈U) ok w v x:=by
 cases x<;>(try simp only [JD,nN] at hx)<;>(try simp only [GX] at h)
 case d x=>exact .d _ _ h.fB
 case aG=>cases h;exact .aG
 case emp=>cases h;exact .emp _
 case ptr id off=>cases h with | ptr _ _ b h1 h2=>exact .ptr _ _ b hx h2
 case sl id sz off len=>cases h with | sl _ _ _ _ n cap a0 a h1 h2 h3 h4 h5=>exact .sl _ _ _ _ n cap a0 a hx h2 h3 h4 h5
 case ael id sz i off=>cases h with | ael _ _ _ _ b o n cap h1 h2=>exact .ael _ _ _ _ b o n cap hx h2
 case map id=>cases h with | map _ r h1 h2=>exact .map _ r hx h2
 case any=>exact .any _
 all_goals cases hx
theorem RdV.NU {β:Nat→Value} {u ok:Nat→Prop} {w:World} {m:List (Nat×Nat)} {U:List Nat} {v:Value} {x:V} (hx:sO U x=true) (h:RdV β u ok w v (xQ m x)):RdV (fun i=>β (aY m i)) (fun i=>i∈U) ok w v x:=by
 cases x
 case func fn f c=>
  match f,hx,h with
  | [],hx,h=>cases h with | func _ fs cs _ _ h1 h2 _ h4=>exact .func _ _ _ _ _ h1 (by rw [h2,List.length_map]) (fun i v x _ hx=>by simp at hx) (fun i v x hv hc=>
    RdV.TR (List.all_eq_true.1 hx x (List.mem_of_getElem? hc)) (h4 i v (GX m x) hv (by simp [hc])))
  | _::_,hx,_=>cases hx
 all_goals exact RdV.TR hx h
theorem RdV.TS {β:Nat→Value} {u ok:Nat→Prop} {w:World} {m:List (Nat×Nat)} {U:List Nat} {v:Value} {x:V} (hx:Yw U x=true) (h:RdV β u ok w v (La m x)):RdV (fun i=>β (aY m i)) (fun i=>i∈U) ok w v x:=by
 have pick:∀ (vs:Array Value) (cs:List V),cs.all (sO U)=true→(∀ (i:Nat) v c,vs[i]?=some v→(cs.map (xQ m))[i]?=some c→RdV β u ok w v c)→∀ (i:Nat) v c,vs[i]?=some v→cs[i]?=some c→RdV (fun i=>β (aY m i)) (fun i=>i∈U) ok w v c:=fun vs cs hcs hh i v c hv hc=>
  RdV.NU (List.all_eq_true.1 hcs c (List.mem_of_getElem? hc)) (hh i v (xQ m c) hv (by simp [hc]))
 cases x
 case agg cs=>
  simp only [La] at h;cases h with
  | agg vs _ h1 h2 h3=>exact .agg _ _ (by simpa using h1) (pick _ _ hx h2) h3
 case tuple cs=>
  simp only [La] at h;cases h with
  | tuple vs _ h1 h2=>exact .tuple _ _ (by simpa using h1) (pick _ _ hx h2)
 all_goals exact RdV.NU hx h
theorem uz {U:List Nat}:∀ {pre:List (Key×Res)},Aq U pre=true→∀ k r,(k,r)∈pre→k.1∈U∧(∀ v,r = .cell v→sO U v=true)∧qm r=true
 | [],_,k,r,hm=>by cases hm
 | (k0,.cell v0)::pre,h,k,r,hm=>by
   simp only [Aq,Bool.and_eq_true,nN] at h;rcases List.mem_cons.1 hm with hm | hm
   ·cases hm;exact ⟨h.1.1,fun v e=>(by cases e;exact h.1.2),rfl⟩
   ·exact uz h.2 k r hm
 | (k0,.arr sz xs)::pre,h,k,r,hm=>by
   simp only [Aq,Bool.and_eq_true,nN] at h;rcases List.mem_cons.1 hm with hm | hm
   ·cases hm;exact ⟨h.1,fun v e=>(by cases e),rfl⟩
   ·exact uz h.2 k r hm
 | (k0,.map es)::pre,h,k,r,hm=>by
   simp only [Aq,Bool.and_eq_true,nN] at h;rcases List.mem_cons.1 hm with hm | hm
   ·cases hm;exact ⟨h.1,fun v e=>(by cases e),rfl⟩
   ·exact uz h.2 k r hm
 | (k0,.rows sz rs out)::pre,h,k,r,hm=>by simp [Aq] at h
theorem Own.TS {β:Nat→Value} {u ok:Nat→Prop} {w:World} {m:List (Nat×Nat)} {U:List Nat} {k:Key} {r:Res} (hr:∀ v,r = .cell v→sO U v=true) (hp:qm r=true) (h:Own β u ok w (lq m k) (Ov m r)):Own (fun i=>β (aY m i)) (fun i=>i∈U) ok w k r:=by
 cases r with
 | cell x=>
   obtain ⟨b,c,T,v,h1,h2,h3,h4,h5⟩:=h;exact ⟨b,c,T,v,h1,h2,h3,h4,RdV.NU (hr x rfl) h5⟩
 | arr sz xs=>exact h
 | map es=>exact h
 | rows sz rs out=>cases hp
def JU (P:Program) (vals:List V) (h:Key→Option Res) (K:KK):Prop:=
 match vals with
 | .func (.func f) first captured::vs=>
   ∃ U as pre news xs post,aH P f U as pre news xs post∧∃ m nw,first++vs++captured=as.map (La m)∧(as.all (Yw U)&&Aq U pre&&U.all (fun i=>pre.any fun e=>Nat.beq e.1.1 i)&&Jq m U news nw)=true ∧
     Y1 m h pre (K (La m (resV xs)) (xY m post++FQ m pre) ((FQ m pre).map (·.1)) nw)
 | _=>False
def wB (β β':Nat→Value) (m:List (Nat×Nat)) (news nw:List Nat) (j:Nat):Value:=
 if j∈nw then match news.find? (fun i=>Nat.beq (aY m i) j) with | some i=>β' i | none=>β j else β j
theorem Jp {m:List (Nat×Nat)} {U news nw:List Nat} (h:Jq m U news nw=true) :
  (∀ i∈news,aY m i∈nw∧i∉U)∧(∀ j∈nw,∃ i∈news,aY m i=j)∧(∀ i∈U,aY m i∉nw)∧(∀ i j,i∈U∨i∈news→j∈U∨j∈news→aY m i=aY m j→i=j):=by
 simp only [Jq,Bool.and_eq_true,List.all_eq_true] at h;obtain ⟨⟨⟨⟨_,h1⟩,h2⟩,h3⟩,h4⟩:=h;refine ⟨fun i hi=>?_,fun j hj=>?_,fun i hi=>?_,fun i j hi hj e=>?_⟩
 ·have:=h1 i hi;simp only [nN,Bool.not_eq_true'] at this;exact ⟨this.1,fun hu=>by rw [nN.2 hu] at this;cases this.2⟩
 ·obtain ⟨i,hi,he⟩:=List.any_eq_true.1 (h2 j hj);exact ⟨i,hi,Nat.eq_of_beq_eq_true he⟩
 ·have:=h3 i hi;intro hc;rw [nN.2 hc] at this;cases this
 ·have:=h4 i (List.mem_append.2 hi) j (List.mem_append.2 hj);simp only [Bool.or_eq_true,Bool.not_eq_true'] at this;rcases this with h' | h'
  ·exact Nat.eq_of_beq_eq_true h'
  ·rw [e,Nat.beq_refl] at h';cases h'
theorem FZ {P:Program} {o:Oper} {fv:Operand} {as':Array Operand} {tys:Array TypeId} (ho:o.op = .call { callee := .value fv,args:=as',argTypes:=tys }) {vals:List V} {h:Key→Option Res} {K:KK} (hK:JU P vals h K) :
  ∃ x δ rd nw,K x δ rd nw∧aC P o vals h x δ rd nw:=by
 unfold JU at hK;split at hK
 ·rename_i f first captured vs
  obtain ⟨U,as,pre,news,xs,post,hp,m,nw,hvals,hchk,hK⟩:=hK;obtain ⟨hlent,hK⟩:=Ho hK;simp only [Bool.and_eq_true] at hchk;obtain ⟨⟨⟨hids,hpre⟩,hUpre⟩,hnames⟩:=hchk;obtain ⟨n1,n2,n3,n4⟩:=Jp hnames;have hpm:=uz hpre;have hU:∀ i∈U,∃ k r,(k,r)∈pre∧k.1=i:=fun i hi=>by
   obtain ⟨e,he,hb⟩:=List.any_eq_true.1 (List.all_eq_true.1 hUpre i hi);exact ⟨e.1,e.2,he,Nat.eq_of_beq_eq_true hb⟩
  refine ⟨_,_,_,_,hK,fun C s a w hrel g1 g2 g3 g4 g5 K' Q hK'=>?_⟩;obtain ⟨β,ok,hr⟩:=hrel;simp only [ho,Op.operands,Call.operands] at g1 g5;have g1':s.ev fv = .func (.func f) first captured∧as'.toList.map s.ev=vs:=by simpa using g1
  have hf:=hr.eval fv (g5 fv (by simp));rw [g1'.1] at hf;generalize hvf:a.eval fv=vf at hf;cases hf with
  | func _ fs cs _ _ q1 q2 q3 q4=>
    obtain ⟨fn,e1,e2,e3⟩:=hp.there;have hheld:∀ k r,(k,r)∈pre→s.hp (lq m k)=some (Ov m r):=fun k r hk=>by
     rw [g2 (lq m k) (List.mem_map.2 ⟨(lq m k,none),pI.2 ⟨k,r,hk,rfl,rfl⟩,rfl⟩)];exact hlent k r hk
    let β0:Nat→Value:=fun i=>β (aY m i)
    have hargs:∀ (i:Nat) v x,((fs++as'.map a.eval)++cs)[i]?=some v→as[i]?=some x→RdV β0 (fun i=>i∈U) ok w v x:=fun i v x hv hx=>by
     have hvi:(first++vs++captured)[i]?=some (La m x):=(by rw [hvals];simp [hx]);refine RdV.TS (List.all_eq_true.1 hids x (List.mem_of_getElem? hx)) (u:=s.used) ?_;generalize La m x=y at hvi;rw [← Array.getElem?_toList,Array.toList_append,Array.toList_append,Array.toList_map] at hv;rcases Nat.lt_or_ge i first.length with l1 | l1
     ·rw [List.append_assoc,List.getElem?_append_left l1] at hvi;rw [List.append_assoc,List.getElem?_append_left (by simpa [q1] using l1)] at hv;exact q3 i v y (by simpa using hv) hvi
     ·rw [List.append_assoc,List.getElem?_append_right l1] at hvi;rw [List.append_assoc,List.getElem?_append_right (by simpa [q1] using l1)] at hv;have el:fs.toList.length=first.length:=by simpa using q1
      rw [el] at hv;have ev:vs.length=as'.toList.length:=(by rw [← g1'.2];simp);rcases Nat.lt_or_ge (i-first.length) vs.length with l2 | l2
      ·rw [List.getElem?_append_left l2] at hvi;rw [List.getElem?_append_left (by simpa [ev] using l2)] at hv;rw [← g1'.2] at hvi;simp only [List.getElem?_map,Option.map_eq_some_iff] at hv hvi;obtain ⟨z,hz,rfl⟩:=hv;obtain ⟨z',hz',rfl⟩:=hvi;rw [hz] at hz';cases hz';exact hr.eval z (g5 z (by have:=List.mem_of_getElem? hz;simp;exact .inr (by simpa using this)))
      ·rw [List.getElem?_append_right l2] at hvi;rw [List.getElem?_append_right (by simpa [ev] using l2)] at hv;rw [List.length_map,← ev] at hv;exact q4 _ v y (by simpa using hv) hvi
    have hsize:((fs++as'.map a.eval)++cs).size=as.length:=by
     have:(first++vs++captured).length=as.length:=(by rw [hvals];simp);rw [← this,← g1'.2];simp [q1,q2]
    have hc:=hp.calls β0 ok w ((fs++as'.map a.eval)++cs) hr.glob hr.okb hsize hargs
     (fun k r hk=>⟨(hpm k r hk).1,Own.TS (hpm k r hk).2.1 (hpm k r hk).2.2 (hr.heap _ _ (hheld k r hk)).2⟩)
     (fun k r b hk hb=>⟨(hr.sep _ _ b (hheld k r hk) (.inl hb)).1,(hr.sep _ _ b (hheld k r hk) (.inl hb)).2.1⟩)
     (fun k k' r r' b hk hk' hb hb'=>n4 _ _ (.inl (hpm k r hk).1) (.inl (hpm k' r' hk').1) (hr.inj _ _ _ _ b (hheld k r hk) (hheld k' r' hk') (.inl hb) (.inl hb')))
    unfold Oper.wp;have hrun:(execOp a.eval o).run P w = .ok (.enter f ((fs++as'.map a.eval)++cs)) w:=by
     have e3':fn.body≠none:=(by intro e;rw [e] at e3;cases e3);have e2':¬ fn.name = "runtime.NumGoroutine" := by simpa using e2
     simp [execOp,ho,resolve,hvf,Deferred.ofValue,invoke,callFunc,e1,e2',e3']
    rw [hrun];refine hc.mono fun e w' ⟨v,β1,ok',he,hk1,hv1,hown1,hsep1,hinj1,hokb1,hokm,hokn1,hfr1⟩=>?_
    subst he;refine hK' _ _ ⟨wB β β1 m news nw,ok',?_⟩;have used_nw:∀ j,s.used j→j∉nw:=fun j hj hn=>g3 j hn hj
    have bold:∀ j,s.used j→wB β β1 m news nw j=β j:=fun j hj=>by unfold wB;rw [if_neg (used_nw j hj)]
    have bnew:∀ i,i∈news→wB β β1 m news nw (aY m i)=β1 i:=fun i hi=>by
     unfold wB;rw [if_pos (n1 i hi).1];cases hfd:news.find? (fun i'=>Nat.beq (aY m i') (aY m i)) with
     | none=>
       have:=List.find?_eq_none.1 hfd i hi;simp [Nat.beq_refl] at this
     | some i'=>
       have h1:=List.find?_some hfd;have h2:=List.mem_of_find?_eq_some hfd;have:=n4 i' i (.inr h2) (.inr hi) (Nat.eq_of_beq_eq_true h1);simp only [this]
    have uU:∀ i,i∈U→s.used (aY m i):=fun i hi=>by
     obtain ⟨k,r,hk,e⟩:=hU i hi;have:=(hr.heap _ _ (hheld k r hk)).1;rw [← e];exact this
    have bU:∀ i,i∈U→wB β β1 m news nw (aY m i)=β1 i:=fun i hi=>by
     unfold wB;rw [if_neg (n3 i hi),hk1 i hi]
    have hren:∀ i,(i∈U∨i∈news)→(s.used (aY m i)∨aY m i∈nw)∧wB β β1 m news nw (aY m i)=β1 i:=fun i hi=>
     ⟨hi.elim (fun h' => .inl (uU i h')) (fun h' => .inr (n1 i h').1),hi.elim (bU i) (bnew i)⟩
    have whole:∀ b,(∀ o,jV β0 pre b o)→∃ k r,(k,r)∈pre∧aB (β0 k.1)=some b∧∀ v,r ≠ .cell v:=fun b hb=>by
     have big:∀ l:List (Key×Res),∃ n:Nat,∀ k r,(k,r)∈l→k.2<n:=by
      intro l
      induction l with
      | nil=>exact ⟨0,fun k r hk=>by cases hk⟩
      | cons x l ih=>
        obtain ⟨n,hn⟩:=ih;refine ⟨n+x.1.2+1,fun k r hk=>?_⟩;rcases List.mem_cons.1 hk with hk | hk
        ·cases hk;simp;omega
        ·have:=hn k r hk;omega
     obtain ⟨n,hn⟩:=big pre;obtain ⟨k,r,hk,hbk,ho⟩:=hb n;refine ⟨k,r,hk,hbk,fun v e=>?_⟩;subst e;have:=hn k _ hk;simp only at ho;omega
    have alone:∀ k r b,s.hp k=some r→Blk β w k r b→∀ k1 r1,(k1,r1)∈pre→aB (β0 k1.1)=some b→(∀ v,r1 ≠ .cell v)→k=lq m k1:=fun k r b hkr hb k1 r1 hk1m hb1 hnc=>by
     have hid:=hr.inj k (lq m k1) r _ b hkr (hheld k1 r1 hk1m) hb (.inl hb1);have hpl:=(hpm k1 r1 hk1m).2.2;have ho1:=(hr.heap _ _ (hheld k1 r1 hk1m)).2;have ho:=(hr.heap _ _ hkr).2;have e0:∀ sz xs,r1 = .arr sz xs→k1.2=0∧∃ a n c,β (aY m k1.1) = .slice a n c:=fun sz xs e=>by
      subst e;obtain ⟨h1,a',cap,h2,_⟩:=ho1;exact ⟨h1,a',_,cap,h2⟩
     have e1:∀ es,r1 = .map es→k1.2=0∧∃ q,β (aY m k1.1) = .map (some q):=fun es e=>by
      subst e;obtain ⟨h1,q,en,cl,h2,_⟩:=ho1;exact ⟨h1,q,h2⟩
     obtain ⟨x1,x2⟩:=k;simp only [lq] at hid;subst hid;have hk2:x2=0:=by
      cases r with
      | arr sz xs=>exact ho.1
      | map es=>exact ho.1
      | rows sz rs out=>exact ho.1
      | cell v=>
        exfalso;obtain ⟨b2,c2,T2,v2,g1,_⟩:=ho;simp only at g1;cases r1 with
        | cell v1=>exact hnc v1 rfl
        | arr sz xs=>obtain ⟨_,a',n',c',h2⟩:=e0 sz xs rfl;rw [h2] at g1;cases g1
        | map es=>obtain ⟨_,q,h2⟩:=e1 es rfl;rw [h2] at g1;cases g1
        | rows sz rs out=>cases hpl
     have hk12:k1.2=0:=by
      cases r1 with
      | cell v1=>exact absurd rfl (hnc v1)
      | arr sz xs=>exact (e0 sz xs rfl).1
      | map es=>exact (e1 es rfl).1
      | rows sz rs out=>cases hpl
     simp [lq,hk2,hk12]
    have notδ:∀ k,(∀ r',(k,r')∉xY m post++FQ m pre)→∀ k1 r1,(k1,r1)∈pre→k≠lq m k1:=fun k hno k1 r1 hk1m e=>
     hno none (List.mem_append_right _ (pI.2 ⟨k1,r1,hk1m,e,rfl⟩))
    have wrC:∀ b o,b<C.w0.heap.size→jV β0 pre b o→C.wr b o:=fun b o hb ⟨k1,r1,hk1m,hb1,ho⟩=>by
     have:=(hr.sep _ _ b (hheld k1 r1 hk1m) (.inl hb1)).2.2 hb;cases r1 with
     | cell v=>
       simp only at ho;subst ho;exact this.2
     | arr sz xs=>exact this o
     | map es=>exact this o
     | rows sz rs out=>exact this o
    have hkeep:Keeps ok w w':=fun b hb=>hfr1.blk b (hr.okb b hb) (fun o ⟨k1,r1,hk1m,hb1,_⟩=>(hr.sep _ _ b (hheld k1 r1 hk1m) (.inl hb1)).1 hb)
    have notok:∀ k r b,s.hp k=some r→Blk β w k r b→(∀ k1 r1,(k1,r1)∈pre→(∀ v,r1 ≠ .cell v)→k≠lq m k1)→¬ ok' b:=fun k r b hkr hb hne hc=>by
     have hs:=hr.sep k r b hkr hb;rcases hokn1 b hc with h' | h' | h'
     ·exact hs.1 h'
     ·omega
     ·obtain ⟨k1,r1,hk1m,hb1,hnc⟩:=whole b h';exact hne k1 r1 hk1m hnc (alone k r b hkr hb k1 r1 hk1m hb1 hnc)
    have dich:∀ k r,s.hp k=some r→(∀ r',(k,r')∉xY m post++FQ m pre)→∀ b,Blk β w k r b→(w'.heap[b]?=w.heap[b]?∨((∃ x,r = .cell x)∧Own (wB β β1 m news nw) (fun i=>s.used i∨i∈nw) ok' w' k r)):=fun k r hkr hno b hb=>by
     have hs:=hr.sep k r b hkr hb;by_cases hin:∃ k1 r1,(k1,r1)∈pre∧aB (β0 k1.1)=some b
     ·right;obtain ⟨k1,r1,hk1m,hb1⟩:=hin;have hcell:∀ k1 r1,(k1,r1)∈pre→aB (β0 k1.1)=some b→∃ v,r1 = .cell v:=fun k1 r1 hk1m hb1=>by
       apply Classical.byContradiction;intro hnc;exact notδ k hno k1 r1 hk1m (alone k r b hkr hb k1 r1 hk1m hb1 (fun v e=>hnc ⟨v,e⟩))
      obtain ⟨v1,rfl⟩:=hcell k1 r1 hk1m hb1;have hid:=hr.inj k (lq m k1) r _ b hkr (hheld _ _ hk1m) hb (.inl hb1);obtain ⟨b1,c1,T1,u1,f1,f2,_⟩:=(hr.heap _ _ (hheld _ _ hk1m)).2;obtain ⟨_,ho⟩:=hr.heap _ _ hkr;have fβ:β k.1 = .pointer (some ⟨b1,0,none⟩):=(by rw [hid];exact f1);cases r with
      | arr sz ys=>obtain ⟨_,a',cap,h1,_⟩:=ho;rw [fβ] at h1;cases h1
      | map es=>obtain ⟨_,q,en,cl,h1,_⟩:=ho;rw [fβ] at h1;cases h1
      | rows sz rs out=>obtain ⟨_,⟨a',cap,h1,_⟩,_⟩:=ho;rw [fβ] at h1;cases h1
      | cell x=>
        refine ⟨⟨x,rfl⟩,?_⟩;have eb:b1=b:=(by have hb:=hb.cell;rw [fβ] at hb;simpa [aB] using hb);subst eb;obtain ⟨b2,c2,T2,v2,h1,h2,h3,h4,h5⟩:=ho;rw [fβ] at h1;simp at h1;subst h1;obtain ⟨c',k1',k2',k3'⟩:=hfr1.cel b1 c2 T2 _ h2;refine ⟨b1,c',T2,v2,(bold _ (hr.heap _ _ hkr).1).trans fβ,k1',?_,h4,h5.mono bold (fun i hi => .inl hi) hkeep hokm⟩;rw [k3' k.2 (fun ⟨k3,r3,hk3m,hb3,ho3⟩=>?_)]
        ·exact h3
        ·obtain ⟨v3,rfl⟩:=hcell k3 r3 hk3m hb3;have hid3:=hr.inj k (lq m k3) _ _ b1 hkr (hheld _ _ hk3m) hb (.inl hb3);simp only at ho3;refine notδ k hno k3 _ hk3m ?_;obtain ⟨x1,x2⟩:=k;simp only [lq] at hid3 ⊢;simp only at ho3;rw [hid3,ho3]
     ·left;exact hfr1.blk b hs.2.1 (fun o ⟨k1,r1,hk1m,hb1,_⟩=>hin ⟨k1,r1,hk1m,hb1⟩)
    have back:∀ k r,s.hp k=some r→(∀ r',(k,r')∉xY m post++FQ m pre)→∀ b,Blk (wB β β1 m news nw) w' k r b→Blk β w k r b:=fun k r hkr hno b hb=>by
     have hbk:=bold k.1 (hr.heap k r hkr).1;by_cases hc:∃ x,r = .cell x
     ·obtain ⟨x,rfl⟩:=hc;have hb:=hb.cell;rw [hbk] at hb;exact .inl hb
     ·exact Blk.mono hbk (fun b hb'=>(dich k r hkr hno b hb').elim id (fun e=>absurd e.1 hc)) hb
    refine hr.step g4 bold hokm hkeep ?_ (fun k r hkr hno b hb=>?_) (fun k r hmm=>?_) (fun k k' r r' b hmm hkr hb hb'=>?_) hokb1 (fun b hb=>?_) ?_
    ·exact hv1.ren hren
    ·have hs:=hr.sep k r b hkr hb;exact ⟨⟨notok k r b hkr hb (fun k1 r1 hk1m _=>notδ k hno k1 r1 hk1m),Nat.lt_of_lt_of_le hs.2.1 hfr1.size⟩,dich k r hkr hno b hb⟩
    ·rcases List.mem_append.1 hmm with hmm | hmm
     ·obtain ⟨k0,r0,hk0m,rfl,e0⟩:=uG.1 hmm;cases e0;obtain ⟨i1,i2⟩:=hown1 k0 r0 hk0m;refine ⟨(hren k0.1 i1).1,i2.ren hren (hp.plain k0 r0 hk0m) i1,fun b hb=>?_⟩;have hb:=hb.plain (by have:=hp.plain k0 r0 hk0m;cases r0<;>first | rfl | exact this);have hb':aB (β1 k0.1)=some b:=(by rw [← (hren k0.1 i1).2];exact hb);obtain ⟨j1,j2,j3⟩:=hsep1 k0 r0 b hk0m hb';refine ⟨j1,j2,fun hlt=>?_⟩;have hltw:b<w.heap.size:=Nat.lt_of_lt_of_le hlt hr.frame.size;cases r0 with
      | cell v=>
        obtain ⟨l1,l2⟩:=j3 hltw;refine ⟨?_,wrC b _ hlt l2⟩;obtain ⟨k1,r1,hk1m,hb1,_⟩:=l2;obtain ⟨k2,r2,hk2m,e2⟩:=hU k0.1 l1;have hb2:aB (β0 k2.1)=some b:=by
         have h1:=hk1 k0.1 l1;rw [h1] at hb';rw [e2];exact hb'
        have hidk:=n4 _ _ (.inl (hpm k1 r1 hk1m).1) (.inl (hpm k2 r2 hk2m).1) (hr.inj _ _ _ _ b (hheld k1 r1 hk1m) (hheld k2 r2 hk2m) (.inl hb1) (.inl hb2));have hs2:=(hr.sep _ _ b (hheld k2 r2 hk2m) (.inl hb2)).2.2 hlt;obtain ⟨_,b5,c5,T5,v5,f5,_⟩:=(⟨i1,i2⟩:_∧Own β1 _ ok' w' k0 (.cell v));have ho2:=(hr.heap _ _ (hheld k2 r2 hk2m)).2;have fβ2:β (aY m k2.1) = .pointer (some ⟨b5,0,none⟩):=by
         have h1:=hk1 k0.1 l1;rw [e2,← f5,h1]
        cases r2 with
        | cell v2=>
          show aY m k0.1∈C.u0;rw [← e2];exact hs2.1
        | arr sz ys=>obtain ⟨_,a',cap,h1,_⟩:=ho2;simp only [lq] at h1;rw [fβ2] at h1;cases h1
        | map es=>obtain ⟨_,q,en,cl,h1,_⟩:=ho2;simp only [lq] at h1;rw [fβ2] at h1;cases h1
        | rows sz rs out=>obtain ⟨_,⟨a',cap,h1,_⟩,_⟩:=ho2;simp only [lq] at h1;rw [fβ2] at h1;cases h1
      | arr sz xs=>exact fun o=>wrC b o hlt (j3 hltw o)
      | map es=>exact fun o=>wrC b o hlt (j3 hltw o)
      | rows sz rs out=>exact fun o=>wrC b o hlt (j3 hltw o)
     ·obtain ⟨k0,r0,_,_,e0⟩:=pI.1 hmm;cases e0
    ·rcases List.mem_append.1 hmm with hmm | hmm
     case inr=>
      obtain ⟨k0,r0,_,_,e0⟩:=pI.1 hmm;cases e0
     case inl=>
      obtain ⟨k0,r0,hk0m,rfl,e0⟩:=uG.1 hmm;cases e0;obtain ⟨i1,i2⟩:=hown1 k0 r0 hk0m;have hb:=hb.plain (by have:=hp.plain k0 r0 hk0m;cases r0<;>first | rfl | exact this);have hb0:aB (β1 k0.1)=some b:=(by rw [← (hren k0.1 i1).2];exact hb);rcases dY s.hp (xY m post++FQ m pre) k' with ⟨e',hno⟩ | ⟨rr,hm',e'⟩
      ·have hkr':s.hp k'=some r':=e'.symm.trans hkr;have hus:=(hr.heap k' r' hkr').1;have hb':=back k' r' hkr' hno b hb';have hs:=hr.sep k' r' b hkr' hb';obtain ⟨_,_,j3⟩:=hsep1 k0 r0 b hk0m hb0;have j3':=j3 hs.2.1;cases r0 with
       | cell v=>
         obtain ⟨l1,l2⟩:=j3';obtain ⟨k2,r2,hk2m,e2⟩:=hU k0.1 l1;have hb2:aB (β0 k2.1)=some b:=by
          have h1:=hk1 k0.1 l1;rw [h1] at hb0;rw [e2];exact hb0
         have:=hr.inj k' (lq m k2) r' _ b hkr' (hheld k2 r2 hk2m) hb' (.inl hb2);show aY m k0.1=k'.1;rw [this,← e2];rfl
       | arr sz xs=>
         exfalso;obtain ⟨k1,r1,hk1m,hb1,hnc⟩:=whole b j3';exact notδ k' hno k1 r1 hk1m (alone k' r' b hkr' hb' k1 r1 hk1m hb1 hnc)
       | map es=>
         exfalso;obtain ⟨k1,r1,hk1m,hb1,hnc⟩:=whole b j3';exact notδ k' hno k1 r1 hk1m (alone k' r' b hkr' hb' k1 r1 hk1m hb1 hnc)
       | rows sz rs out=>
         exfalso;obtain ⟨k1,r1,hk1m,hb1,hnc⟩:=whole b j3';exact notδ k' hno k1 r1 hk1m (alone k' r' b hkr' hb' k1 r1 hk1m hb1 hnc)
      ·have er:rr=some r':=e'.symm.trans hkr;subst er;rcases List.mem_append.1 hm' with hm' | hm'
       ·obtain ⟨k2,r2,hk2m,rfl,e2⟩:=uG.1 hm';cases e2;have i2':=(hown1 k2 r2 hk2m).1;have hb':=hb'.plain (by have:=hp.plain k2 r2 hk2m;cases r2<;>first | rfl | exact this);have hb2:aB (β1 k2.1)=some b:=(by rw [← (hren k2.1 i2').2];exact hb');show aY m k0.1=aY m k2.1;rw [hinj1 k0 k2 r0 r2 b hk0m hk2m hb0 hb2]
       ·obtain ⟨k2,r2,_,_,e2⟩:=pI.1 hm';cases e2
    ·rcases hokn1 b hb with h' | h' | h'
     ·exact .inl h'
     ·exact .inr (.inl (Nat.le_trans hr.frame.size h'))
     ·rcases Nat.lt_or_ge b C.w0.heap.size with hlt | hge
      ·exact .inr (.inr (fun o=>wrC b o hlt (h' o)))
      ·exact .inr (.inl hge)
    ·refine ⟨hfr1.os.trans hr.frame.os,hfr1.tape.trans hr.frame.tape,hfr1.output.trans hr.frame.output,Nat.le_trans hr.frame.size hfr1.size,fun b hb hn=>?_,fun b c T fz hbc=>?_⟩
     ·have hbw:b<w.heap.size:=Nat.lt_of_lt_of_le hb hr.frame.size;rw [hfr1.blk b hbw (fun o ho=>hn o (wrC b o hb ho))];exact hr.frame.blk b hb hn
     ·have hb0:b<C.w0.heap.size:=(Array.getElem?_eq_some_iff.1 hbc).1;obtain ⟨c1,j1,j2,j3⟩:=hr.frame.cel b c T fz hbc;obtain ⟨c2,j4,j5,j6⟩:=hfr1.cel b c1 T fz j1;exact ⟨c2,j4,j5.trans j2,fun o ho=>(j6 o (fun ho'=>ho (wrC b o hb0 ho'))).trans (j3 o ho)⟩
 ·exact hK.elim
def bY (te:TE) (k:D):Bool:=match gJ te.ks k.cells with
 | true=>(match k.one with | true=>!te.k.isAgg | false=>te.k.isAgg)
 | false=>false
def AU:List (D×D)→D→Nat→Option (Nat×D)
 | [],_,_=>none
 | e::es,k,i=>match aF k.cells e.1.cells with | true=>some (i,e.2) | false=>AU es k (i+1)
def look:List (D×D)→D→Option D
 | [],_=>none
 | e::es,k=>match aF k.cells e.1.cells with | true=>some e.2 | false=>look es k
def oC:List (D×D)→D→D→List (D×D)
 | [],k,v=>[(k,v)]
 | e::es,k,v=>match aF k.cells e.1.cells with | true=>(k,v)::es | false=>e::oC es k v
def F7:List (D×D)→D→List (D×D)
 | [],_=>[]
 | e::es,k=>match aF k.cells e.1.cells with | true=>es | false=>e::F7 es k
theorem wR:∀ (es:List (D×D)) (k:D) (i:Nat),look es k=(AU es k i).map (·.2)
 | [],_,_=>rfl
 | e::es,k,i=>by
   unfold look AU;split
   ·rfl
   ·exact wR es k (i+1)
section
variable {P:Program} {T:Nat→TE} {ok:Nat→Prop} {w:World}
structure WB (P:Program) (te:TE) (kt:Nat):Prop where
 eq:WC P 10000 kt te.ks
 agg:oI P kt=te.k.isAgg
 plain:te.k.isAgg=false→∃ d,P.underlying kt=some d∧((d = .bool∧te.ks=[.b])∨(∃ k,d = .int k∧te.ks=[.i k])∨(d = .string∧te.ks=[.s]))
 wide:te.k.isAgg=true→(match P.underlying kt with | some (.array _ _) | some (.struct _)=>true | _=>false)=true
theorem TOK.Y5 (hT:TOK P T) {kt:Nat} (hk:(T kt).known=true) (hn:(!(T kt).ks.isEmpty)=true):WB P (T kt) kt:=by
 have hne:(T kt).ks≠[]:=by intro e;rw [e] at hn;cases hn
 obtain ⟨d,i,hf⟩:=hT.facts (TE.bP hk);obtain ⟨_,hs⟩:=hT.keys (TE.bP hk) hne;have hkk:=hf.k;have hag:oI P kt=(T kt).k.isAgg:=by
  unfold oI;rw [hf.und,hkk];have:=TE.bP hk;rw [hkk] at this;cases d
  case struct fs=>
   simp only [kOf] at this ⊢;split at this
   ·rename_i h;rw [if_pos h];rfl
   ·exact absurd rfl this
  case array n e=>
   simp only [kOf] at this ⊢;split at this
   ·rename_i h;rw [if_pos h];rfl
   ·exact absurd rfl this
  all_goals first | rfl | exact absurd rfl this
 refine ⟨zQ 9994 6 kt _ hs,hag,fun ha=>⟨d,hf.und,?_⟩,fun ha=>?_⟩
 ·rw [← hag] at ha;unfold oI at ha;rw [hf.und] at ha;simp only [wG,hf.und] at hs;cases d<;>simp at hs ha
  ·exact .inl ⟨rfl,hs.symm⟩
  ·exact .inr (.inl ⟨_,rfl,hs.symm⟩)
  ·exact .inr (.inr ⟨rfl,hs.symm⟩)
 ·rw [← hag] at ha;unfold oI at ha;split at ha<;>simp_all
theorem iD {te:TE} {k:D} (h:bY te k=true):gJ te.ks k.cells=true∧k.one=!te.k.isAgg:=by
 unfold bY at h;split at h
 ·rename_i h1;refine ⟨h1,?_⟩;split at h
  ·rename_i h2;rw [h2,h]
  ·rename_i h2;rw [h2,h];rfl
 ·cases h
theorem jc {te:TE} {kt:Nat} (hK:WB P te kt) {vk:Value} {k:D} (hk:RdD ok w vk k) (hfit:bY te k=true):∀ (ents:List MapEntry) (es:List (D×D)) (i:Nat),ents.length=es.length →
  (∀ (j:Nat) m e,ents[j]?=some m→es[j]?=some e→RdD ok w m.key e.1)→(∀ e∈es,bY te e.1=true) →
  ((Instr.findAsking kt vk ents i).run P w = .ok none w∧AU es k i=none∧(∀ v,oC es k v=es++[(k,v)])∧F7 es k=es) ∨
  ∃ j m e,(Instr.findAsking kt vk ents i).run P w = .ok (some (i+j,m.val)) w∧ents[j]?=some m∧es[j]?=some e∧AU es k i=some (i+j,e.2)∧aF k.cells e.1.cells=true∧(∀ v,oC es k v=es.set j (k,v))∧F7 es k=es.eraseIdx j
 | [],[],i,_,_,_ => .inl ⟨by simp [Instr.findAsking],rfl,fun _=>rfl,rfl⟩
 | [],_::_,_,h,_,_=>by simp at h
 | _::_,[],_,h,_,_=>by simp at h
 | m::ents,e::es,i,hl,hr,hf=>by
   obtain ⟨f1,f2⟩:=iD hfit;obtain ⟨g1,g2⟩:=iD (hf e (by simp));have he:=(hK.eq ok w vk m.key k e.1 hk (hr 0 m e rfl rfl) (by rw [Shape,hK.agg];exact f2) (by rw [Shape,hK.agg];exact g2) f1 g1).1;have he':(Op.equal kt vk m.key).run P w = .ok (aF k.cells e.1.cells) w:=he;cases hb:aF k.cells e.1.cells with
   | true=>
     rw [hb] at he';exact .inr ⟨0,m,e,by simp [Instr.findAsking,he'],rfl,rfl,by simp [AU,hb],hb,fun v=>by simp [oC,hb],by simp [F7,hb]⟩
   | false=>
     rw [hb] at he';rcases jc hK hk hfit ents es (i+1) (by simpa using hl) (fun j m e hm he=>hr (j+1) m e (by simpa using hm) (by simpa using he)) (fun e he=>hf e (by simp [he])) with ⟨q1,q2,q3,q4⟩ | ⟨j,m',e',q1,q2,q3,q4,q5,q6,q7⟩
     ·exact .inl ⟨by simp [Instr.findAsking,he',q1],by simp [AU,hb,q2],fun v=>by simp [oC,hb,q3],by simp [F7,hb,q4]⟩
     ·exact .inr ⟨j+1,m',e',by simp [Instr.findAsking,he',q1];omega,by simpa using q2,by simpa using q3,by simp [AU,hb,q4];omega,q5,fun v=>by simp [oC,hb,q6],by simp [F7,hb,q7]⟩
theorem tH {te:TE} {kt:Nat} (hK:WB P te kt) {td:TypeDesc} (hu:P.underlying kt=some td) (ha:te.k.isAgg=false) {vk:Value} {k:D} (hk:RdD ok w vk k) (hfit:bY te k=true):∀ (ents:List MapEntry) (es:List (D×D)) (i:Nat),ents.length=es.length →
  (∀ (j:Nat) m e,ents[j]?=some m→es[j]?=some e→RdD ok w m.key e.1)→(∀ e∈es,bY te e.1=true) →
  ∃ r,Instr.findNow td vk ents i=some r∧(Instr.findAsking kt vk ents i).run P w = .ok r w
 | [],[],i,_,_,_=>⟨none,rfl,by simp [Instr.findAsking]⟩
 | [],_::_,_,h,_,_=>by simp at h
 | _::_,[],_,h,_,_=>by simp at h
 | m::ents,e::es,i,hl,hr,hf=>by
   obtain ⟨f1,f2⟩:=iD hfit;obtain ⟨g1,g2⟩:=iD (hf e (by simp));have hm:=hr 0 m e rfl rfl;have he':(Op.equal kt vk m.key).run P w = .ok (aF k.cells e.1.cells) w:=(hK.eq ok w vk m.key k e.1 hk hm (by rw [Shape,hK.agg];exact f2) (by rw [Shape,hK.agg];exact g2) f1 g1).1;have hs:Instr.sameNow td vk m.key=some (aF k.cells e.1.cells):=by
    obtain ⟨d,hd,hcase⟩:=hK.plain ha;rw [hu] at hd;simp only [Option.some.injEq] at hd;subst hd;rw [ha] at f2 g2;generalize e.1=ek at hm g1 g2;rcases hcase with ⟨rfl,hks⟩ | ⟨kd,rfl,hks⟩ | ⟨rfl,hks⟩<;>rw [hks] at f1 g1
    ·cases k<;>simp [D.one,D.cells,gJ,kF] at f1 f2;cases ek<;>simp [D.one,D.cells,gJ,kF] at g1 g2;cases hk;generalize m.key=mk at hm;cases hm;simp [Instr.sameNow,D.cells,aF,eq1]
    ·cases k<;>simp [D.one,D.cells,gJ] at f1 f2<;>try (simp [kF] at f1;done)
     cases ek<;>simp [D.one,D.cells,gJ] at g1 g2<;>try (simp [kF] at g1;done)
     rename_i k1 n1 k2 n2;have e1:kd=k1:=pV (n:=n1) (by split at f1;assumption;cases f1);have e2:kd=k2:=pV (n:=n2) (by split at g1;assumption;cases g1);subst e1;subst e2;cases hk;generalize m.key=mk at hm;cases hm;simp [Instr.sameNow,D.cells,aF,eq1]
    ·cases k<;>simp [D.one,D.cells,gJ,kF] at f1 f2;cases ek<;>simp [D.one,D.cells,gJ,kF] at g1 g2;rename_i s1 s2;cases hk;generalize m.key=mk at hm;cases hm;have ea:(⟨s1.toArray⟩:ByteArray).toList=s1:=(by rw [ByteArray.toList_eq]);have eb:(⟨s2.toArray⟩:ByteArray).toList=s2:=(by rw [ByteArray.toList_eq]);simp [Instr.sameNow,D.cells,aF,eq1,beq_toListBytes,ea,eb]
   cases hb:aF k.cells e.1.cells with
   | true=>
     rw [hb] at he' hs;exact ⟨some (i,m.val),by simp [Instr.findNow,hs],by simp [Instr.findAsking,he']⟩
   | false=>
     rw [hb] at he' hs;obtain ⟨r,q1,q2⟩:=tH hK hu ha hk hfit ents es (i+1) (by simpa using hl) (fun j m e hm he=>hr (j+1) m e (by simpa using hm) (by simpa using he)) (fun e he=>hf e (by simp [he]));exact ⟨r,by simp [Instr.findNow,hs,q1],by simp [Instr.findAsking,he',q2]⟩
theorem kZ {te:TE} {kt:Nat} (hK:WB P te kt) {vk:Value} {k:D} (hk:RdD ok w vk k) (hfit:bY te k=true) (ents:List MapEntry) (es:List (D×D)) (hl:ents.length=es.length)
  (hr:∀ (j:Nat) m e,ents[j]?=some m→es[j]?=some e→RdD ok w m.key e.1) (hf:∀ e∈es,bY te e.1=true) :
  (Instr.findKey kt vk ents).run P w=(Instr.findAsking kt vk ents).run P w:=by
 cases ha:te.k.isAgg with
 | true=>exact run_findKey_eq w (hK.wide ha) vk ents
 | false=>
   obtain ⟨d,hd,_⟩:=hK.plain ha;obtain ⟨r,q1,q2⟩:=tH hK hd ha hk hfit ents es 0 hl hr hf;rw [Go.MapKept.run_findKey hd q1,q2]
theorem nZ {te:TE} {kt:Nat} (hK:WB P te kt) {vk:Value} {k:D} (hk:RdD ok w vk k) (hfit:bY te k=true) (em:Bool):(Instr.checkKey em 10000 kt vk).run P w = .ok () w:=by
 obtain ⟨f1,f2⟩:=iD hfit;exact (hK.eq ok w vk vk k k hk hk (by rw [Shape,hK.agg];exact f2) (by rw [Shape,hK.agg];exact f2) f1 f1).2 em
theorem AZ:∀ {xs ys:List D},xs.length=ys.length→aF xs ys=true→∀ (i:Nat) x y,xs[i]?=some x→ys[i]?=some y→eq1 x y=true
 | [],_,_,_,i,x,y,h,_=>by simp at h
 | _::_,[],h,_,_,_,_,_,_=>by simp at h
 | x::xs,y::ys,hl,h,i,a,b,ha,hb=>by
   rw [qH x y xs ys (by simpa using hl)] at h;simp only [Bool.and_eq_true] at h;cases i with
   | zero=>simp at ha hb;subst ha;subst hb;exact h.1
   | succ i=>exact AZ (by simpa using hl) h.2 i a b (by simpa using ha) (by simpa using hb)
theorem tu:∀ {ks:List SK} {cs:List D},gJ ks cs=true→∀ (i:Nat) k c,ks[i]?=some k→cs[i]?=some c→kF k c=true
 | [],_,_,i,k,c,h,_=>by simp at h
 | _::_,[],h,_,_,_,_,_=>by simp [gJ] at h
 | k::ks,c::cs,h,i,k',c',hk,hc=>by
   unfold gJ at h;split at h
   ·rename_i h1;cases i with
    | zero=>simp at hk hc;subst hk;subst hc;exact h1
    | succ i=>exact tu h i k' c' (by simpa using hk) (by simpa using hc)
   ·cases h
theorem xO {n:Nat} {k:SK} {x y:D} {vx vy:Value} (hx:RdD ok w vx x) (hy:RdD ok w vy y) (fx:kF k x=true) (fy:kF k y=true) (h:eq1 x y=true):Instr.sameBits n vy vx=true:=by
 cases k
 ·cases x<;>simp [kF] at fx;cases y<;>simp [kF] at fy;cases hx;cases hy;simp [eq1] at h;simp [Instr.sameBits,h]
 ·cases x<;>try (simp [kF] at fx;done)
  cases y<;>try (simp [kF] at fy;done)
  rename_i kd k1 n1 k2 n2;have e1:kd=k1:=pV (n:=n1) fx;have e2:kd=k2:=pV (n:=n2) fy;subst e1;subst e2;cases hx;cases hy;simp [eq1] at h;simp [Instr.sameBits,h]
 ·cases x<;>simp [kF] at fx;cases y<;>simp [kF] at fy;cases hx;cases hy;simp [eq1] at h;subst h;have e:∀ (a b:ByteArray),Instr.sameBits n (.string a) (.string b)=(a==b):=fun a b=>by cases n<;>rfl
  rw [e,beq_toListBytes];simp
theorem run_keyThatStays {te:TE} {vk vo:Value} {k ko:D} (hk:RdD ok w vk k) (ho:RdD ok w vo ko) (fk:bY te k=true) (fo:bY te ko=true) (h:aF k.cells ko.cells=true):(Instr.keyThatStays vo vk).run P w = .ok vk w:=by
 obtain ⟨f1,f2⟩:=iD fk;obtain ⟨g1,g2⟩:=iD fo;have hlen:k.cells.length=ko.cells.length:=by rw [dP f1,dP g1]
 suffices hs:Instr.sameBits 10000 vo vk=true by simp [Instr.keyThatStays,hs]
 obtain ⟨c1,c2⟩:=hk.cellsOf;obtain ⟨d1,d2⟩:=ho.cellsOf;cases ha:te.k.isAgg with
 | true=>
   rw [ha] at f2 g2;cases k<;>simp [D.one] at f2;cases ko<;>simp [D.one] at g2;rename_i cs ds;cases hk with
   | agg vs _ p1 p2 p3=>cases ho with
     | agg us _ q1 q2 q3=>
       simp only [D.cells] at *;show (us.size==vs.size&&(us.toList.zip vs.toList).all fun (x,y)=>Instr.sameBits 9999 x y)=true;rw [Bool.and_eq_true];refine ⟨by simp [p1,q1,hlen],List.all_eq_true.2 fun ⟨a,b⟩ hab=>?_⟩;obtain ⟨i,hi⟩:=List.getElem?_of_mem hab;rw [List.getElem?_zip_eq_some] at hi;have hia:us[i]?=some a:=(by simpa using hi.1);have hib:vs[i]?=some b:=(by simpa using hi.2);have hlt:i<cs.length:=(by rw [← p1];exact (Array.getElem?_eq_some_iff.1 hib).1);have hlt':i<ds.length:=(by omega);have hks:i<te.ks.length:=(by rw [← dP f1];exact hlt);exact xO (p2 i b cs[i] hib (by simp)) (q2 i a ds[i] hia (by simp)) (tu f1 i te.ks[i] cs[i] (by simp) (by simp)) (tu g1 i te.ks[i] ds[i] (by simp) (by simp)) (AZ hlen h i _ _ (by simp) (by simp))
 | false=>
   rw [ha] at f2 g2;have ek:k.cells=[k]:=by cases k<;>first | rfl | simp [D.one] at f2
   have eo:ko.cells=[ko]:=by cases ko<;>first | rfl | simp [D.one] at g2
   rw [ek] at f1 h;rw [eo] at g1 h;obtain ⟨k0,hks⟩:∃ k0,te.ks=[k0]:=by
    have:=dP f1;cases hq:te.ks with
    | nil=>rw [hq] at this;simp at this
    | cons a r=>cases r with
      | nil=>exact ⟨a,rfl⟩
      | cons b1 r=>rw [hq] at this;simp at this
   rw [hks] at f1 g1;exact xO hk ho (tu f1 0 k0 k rfl rfl) (tu g1 0 k0 ko rfl rfl) (by simpa [aF] using h)
end
def dh (w:World) (r:Nat) (o:Obj):World:={ w with heap:=w.heap.setIfInBounds r o }
theorem iw (w:World) (r b:Nat) (o:Obj) (h:b≠r):(dh w r o).heap[b]?=w.heap[b]?:=by
 simp [dh,Ne.symm h]
theorem FP (w:World) (r:Nat) (o:Obj) (h:r<w.heap.size):(dh w r o).heap[r]?=some o:=by
 simp [dh,h]
theorem jT (w:World) (r:Nat) (o:Obj):(dh w r o).heap.size=w.heap.size:=by simp [dh]
theorem Born.push {ents:Array MapEntry} {clock:Nat} (h:Born ents clock) (k v:Value):Born (ents.push { key:=k,val:=v,born:=clock }) (clock+1):=by
 refine ⟨fun m hm=>?_,?_⟩
 ·rw [Array.toList_push,List.mem_append,List.mem_singleton] at hm;rcases hm with hm | rfl
  ·exact Nat.lt_succ_of_lt (h.1 m hm)
  ·exact Nat.lt_succ_self _
 ·rw [Array.toList_push,List.map_append,List.nodup_append];refine ⟨h.2,by simp,fun a ha b hb=>?_⟩;obtain ⟨m,hm,rfl⟩:=List.mem_map.1 ha;have:=h.1 m hm;simp at hb;omega
theorem Born.modify {ents:Array MapEntry} {clock:Nat} (h:Born ents clock) (j:Nat) (k v:Value):Born (ents.modify j fun e=>{ e with key:=k,val:=v }) clock:=by
 have key:(ents.modify j fun e=>{ e with key:=k,val:=v }).toList.map (·.born)=ents.toList.map (·.born):=by
  apply List.ext_getElem?;intro i;simp only [List.getElem?_map,Array.getElem?_toList,Array.getElem?_modify];split
  ·cases ents[i]?<;>rfl
  ·rfl
 refine ⟨fun m hm=>?_,key ▸ h.2⟩;have hb:m.born∈ents.toList.map (·.born):=by rw [← key];exact List.mem_map.2 ⟨m,hm,rfl⟩
 obtain ⟨m',hm',e⟩:=List.mem_map.1 hb;rw [← e];exact h.1 m' hm'
theorem Born.erase {ents ents':Array MapEntry} {clock j:Nat} (h:Born ents clock) (hd:ents'.toList=ents.toList.eraseIdx j):Born ents' clock:=by
 unfold Born;rw [hd];exact ⟨fun m hm=>h.1 m (List.mem_of_mem_eraseIdx hm),(List.nodup_iff_pairwise_ne.2 ((List.nodup_iff_pairwise_ne.1 h.2).sublist ((List.eraseIdx_sublist _ _).map _)))⟩
section
variable {C:Ctx} {β:Nat→Value} {ok:Nat→Prop} {s:S} {a:Act} {w:World}
theorem Dn {wr:Nat→Nat→Prop} {w0:World} (h:Frame wr w0 w) {r:Nat} {ents:Array MapEntry} {clock:Nat} (hb:w.heap[r]?=some (.map ents clock)) (o:Obj) (hw:r<w0.heap.size→∃ o,wr r o):Frame wr w0 (dh w r o):=by
 refine ⟨h.os,h.tape,h.output,by rw [jT];exact h.size,fun b' hb' hn=>?_,fun b' c T' fz hc=>?_⟩
 ·by_cases e:b'=r
  ·subst e;obtain ⟨o',ho⟩:=hw hb';exact absurd ho (hn o')
  ·rw [iw w r b' o e];exact h.blk b' hb' hn
 ·obtain ⟨c',h1,h2,h3⟩:=h.cel b' c T' fz hc;by_cases e:b'=r
  ·subst e;rw [hb] at h1;cases h1
  ·exact ⟨c',by rw [iw w r b' o e];exact h1,h2,h3⟩
theorem RelB.Lj (h:RelB C β ok s a w) {id b:Nat} {es:List (D×D)} (hr:s.hp (id,0)=some (.map es)) (hb:aB (β id)=some b) {k:Key} {r:Res} (hk:s.hp k=some r) (hne:k≠(id,0)):¬ Blk β w k r b:=by
 intro hb';have hid:=h.inj k (id,0) r _ b hk hr hb' (.inl hb);obtain ⟨k1,k2⟩:=k;simp only at hid;subst hid;obtain ⟨_,ho⟩:=h.heap _ _ hk;obtain ⟨_,_,r',ents,clock,f1,_⟩:=h.heap _ _ hr;cases r with
 | cell x=>obtain ⟨b2,c2,T2,v2,g1,_⟩:=ho;simp only at f1 g1;rw [f1] at g1;cases g1
 | arr sz' ys=>exact hne (by have:=ho.1;simp only at this;rw [this])
 | map es=>exact hne (by have:=ho.1;simp only at this;rw [this])
 | rows sz rs out=>exact hne (by have:=ho.1;simp only at this;rw [this])
theorem RelB.Yd (h:RelB C β ok s a w) {id b:Nat} {es:List (D×D)} (hr:s.hp (id,0)=some (.map es)) (hb:aB (β id)=some b) (o:Obj) {k:Key} {r:Res} (hk:s.hp k=some r) {b':Nat} (hb':Blk β (dh w b o) k r b'):Blk β w k r b':=by
 by_cases hne:k=(id,0)
 ·subst hne;rw [hr] at hk;cases hk;exact .inl hb'.map
 ·exact Blk.mono rfl (fun c hc'=>iw w b c o (fun e=>h.Lj hr hb hk hne (e ▸ hc'))) hb'
theorem RelB.YU (h:RelB C β ok s a w) {dst:Option Tmp} (hd:∀ d,dst=some d→d<C.nt) {id:Nat} (hid:¬ s.used id) :
  ∃ β',RelB C β' ok (s.apply dst (.map id) [((id,0),some (.map []))] [id]) (a.put dst (.map (some w.heap.size))) (w.alloc (.map #[] 0)):=by
 have hsize:=h.size_le;have hβ:=lK (β:=β) (v := .map (some w.heap.size)) hid;have hk:=iE h.okb (.map #[] 0)
 refine ⟨ghost β id (.map (some w.heap.size)),h.step hd hβ (fun _ h=>h) hk (.map id w.heap.size (.inr (by simp)) (aJ _ _ _)) (fun k r hr _ b hb=>?_) (fun k r hm'=>?_) (fun k k' r r' b hm' hr hb hb'=>?_)
  (fun b hb=>by have:=h.okb b hb;simp;omega) (fun b hb => .inl hb) (h.frame.alloc _)⟩
 ·have:=h.sep k r b hr hb;exact ⟨⟨this.1,by simp;omega⟩,.inl (heap_alloc_old w _ b this.2.1)⟩
 ·simp at hm';obtain ⟨rfl,rfl⟩:=hm';refine ⟨.inr (by simp),⟨rfl,w.heap.size,#[],0,aJ _ _ _,heap_alloc_new w _,rfl,fun i m e hm=>by simp at hm,by simp [Born]⟩,fun b hb=>?_⟩;have hb:=hb.map;rw [aJ] at hb;simp [aB] at hb;subst hb;exact ⟨fun hc=>by have:=h.okb _ hc;omega,by simp,fun hc=>by omega⟩
 ·simp at hm';obtain ⟨rfl,rfl⟩:=hm';have hb:=hb.map;rw [aJ] at hb;simp [aB] at hb;subst hb;rcases dY s.hp [((id,0),some (Res.map []))] k' with ⟨e,hno⟩ | ⟨r0,hm'',e⟩
  ·have hr':s.hp k'=some r':=e.symm.trans hr;have:=(h.sep k' r' _ hr' (h.uZ hβ _ hr' hb')).2.1;omega
  ·simp at hm'';rw [hm''.1]
theorem RelB.CG (h:RelB C β ok s a w) {dst:Option Tmp} (hd:∀ d,dst=some d→d<C.nt) {id:Nat} {es es':List (D×D)} (hr:s.hp (id,0)=some (.map es)) {r:Nat} {ents:Array MapEntry} {clock:Nat}
  (e1:β id = .map (some r)) (e2:w.heap[r]?=some (.map ents clock)) {ents':Array MapEntry} {clock':Nat} (hl:ents'.size=es'.length)
  (hx:∀ (i:Nat) m e,ents'[i]?=some m→es'[i]?=some e→RdD ok w m.key e.1∧RdD ok w m.val e.2) (hbn:Born ents' clock') (vd:Value) :
  RelB C β ok (s.apply dst .any [((id,0),some (.map es'))] []) (a.put dst vd) (dh w r (.map ents' clock')):=by
 have hu0:=(h.heap _ _ hr).1;have hbl:aB (β id)=some r:=by rw [e1];rfl
 have hsep:=h.sep _ _ r hr (.inl hbl);have hk:Keeps ok w (dh w r (.map ents' clock')):=fun b hb=>iw w r b _ (fun e=>hsep.1 (e ▸ hb))
 refine h.step hd (fun _ _=>rfl) (fun _ h=>h) hk (.any _) (fun k r1 hr' hno b' hb'=>?_) (fun k r1 hm=>?_) (fun k k' r1 r' b' hm hr' hb hb'=>?_)
  (fun b hb=>by rw [jT];exact h.okb b hb) (fun b hb => .inl hb) (Dn h.frame e2 _ (fun hb0=>⟨0,hsep.2.2 hb0 0⟩))
 ·have hs:=h.sep k r1 b' hr' hb';refine ⟨⟨hs.1,by rw [jT];exact hs.2.1⟩,.inl (iw w r b' _ (fun e=>?_))⟩;subst e;exact h.Lj hr hbl hr' (fun e=>hno (some (.map es')) (by simp [e])) hb'
 ·simp at hm;obtain ⟨rfl,rfl⟩:=hm;refine ⟨.inl hu0,⟨rfl,r,ents',clock',e1,FP w r _ hsep.2.1,hl,fun i m e hm he=>⟨(hx i m e hm he).1.mono hk (fun _ h=>h),(hx i m e hm he).2.mono hk (fun _ h=>h)⟩,hbn⟩,fun b' hb'=>?_⟩;have hb':=hb'.map;simp only [hbl,Option.some.injEq] at hb';subst hb';exact ⟨hsep.1,by rw [jT];exact hsep.2.1,hsep.2.2⟩
 ·simp at hm;obtain ⟨rfl,rfl⟩:=hm;have hb:=hb.map;simp only [hbl,Option.some.injEq] at hb;subst hb;rcases dY s.hp [((id,0),some (Res.map es'))] k' with ⟨e,hno⟩ | ⟨r0,hm',e⟩
  ·have h2:s.hp k'=some r':=e.symm.trans hr';exact (h.inj k' (id,0) r' _ r h2 hr (h.Yd hr hbl _ h2 hb') (.inl hbl)).symm
  ·simp at hm';rw [hm'.1]
end
section
variable {P:Program} {T:Nat→TE}
theorem TOK.map (hT:TOK P T) {t k e:Nat} (hk:(T t).k = .map k e):P.underlying t=some (.map k e):=by
 obtain ⟨d,i,h⟩:=hT.facts (t:=t) (by rw [hk];intro e;cases e);have hd:=h.k;rw [hk] at hd;rw [nK.2.2.2.2.2 k e hd.symm] at h;exact h.und
def Io (n:Nat) (K:KK):Prop:=K (.map n) [((n,0),some (.map []))] [] [n]
theorem Bz {o:Oper} {t:Nat} (ho:o.op = .makeMap t none) {vals:List V} {h:Key→Option Res} {n:Nat} {K:KK} (hK:Io n K):∃ x δ rd nw,K x δ rd nw∧aC P o vals h x δ rd nw:=by
 refine ⟨_,_,_,_,hK,aC.of_run fun C β ok s a w hr g1 g2 g3 g4 g5=>?_⟩;obtain ⟨β',hrel⟩:=hr.YU (dst:=o.dst) g4 (g3 n (by simp));exact ⟨_,_,.inl (by simp [execOp,ho,Instr.makeMap,newObj,Sem.run]),β',ok,hrel⟩
def YD (x:D) (K:List (D×D)→Prop):Prop:=match x with | .map es=>K es | _=>False
theorem PO {x:D} {K:List (D×D)→Prop} (h:YD x K):∃ es,x = .map es∧K es:=by cases x<;>first | exact ⟨_,rfl,h⟩ | exact h.elim
def Ei (r:Option Res) (K:List (D×D)→Prop):Prop:=match r with | some (.map es)=>K es | _=>False
theorem sQ {r:Option Res} {K:List (D×D)→Prop} (h:Ei r K):∃ es,r=some (.map es)∧K es:=by
 unfold Ei at h;split at h
 ·exact ⟨_,rfl,h⟩
 ·exact h.elim
def mapOf (m:V) (h:Key→Option Res) (K:List (D×D)→List Key→Prop):Prop:=
 match m with
 | .map id=>Ei (h (id,0)) fun es=>K es [(id,0)]
 | .d x=>YD x fun es=>K es []
 | _=>False
def HasMap (ok:Nat→Prop) (w:World) (v:Value) (es:List (D×D)):Prop:=
 (v = .map none∧es=[])∨∃ r ents clock,v = .map (some r)∧w.heap[r]?=some (.map ents clock)∧ents.size=es.length ∧
  ∀ (i:Nat) (m:MapEntry) (e:D×D),ents[i]?=some m→es[i]?=some e→RdD ok w m.key e.1∧RdD ok w m.val e.2
theorem DT {m:V} {h:Key→Option Res} {K:List (D×D)→List Key→Prop} (hK:mapOf m h K):∃ es rd,K es rd ∧
  ∀ (β:Nat→Value) (u ok:Nat→Prop) (w:World) v,RdV β u ok w v m→(∀ k∈rd,∀ r,h k=some r→Own β u ok w k r)→HasMap ok w v es:=by
 unfold mapOf at hK;split at hK
 ·rename_i id;obtain ⟨es,he,hK⟩:=sQ hK;refine ⟨es,_,hK,fun β u ok w v hv ho=>?_⟩;obtain ⟨_,r,ents,clock,h1,h2,h3,h4,_⟩:=ho (id,0) (by simp) _ he;cases hv with
  | map _ r' p1 p2=>
    simp only at h1;rw [p2] at h1;have e:r'=r:=(by simpa using h1);subst e;exact .inr ⟨r',ents,clock,rfl,h2,h3,h4⟩
 ·obtain ⟨es,rfl,hK⟩:=PO hK;refine ⟨es,_,hK,fun β u ok w v hv _=>?_⟩;have:=hv.fB;cases this with
  | Sm=>exact .inl ⟨rfl,rfl⟩
  | map r clock ents _ q1 q2 q3 q4 q5=>exact .inr ⟨r,ents,clock,rfl,q2,q3,fun i m e hm he=>⟨q4 i m e hm he,q5 i m e hm he⟩⟩
 ·exact hK.elim
def EI (T:Nat→TE) (te:TE) (commaOk:Bool) (vals:List V) (h:Key→Option Res) (K:KK):Prop:=
 match te.k,vals with
 | .map kt et,[m,k]=>aP ((T kt).known&&(!(T kt).ks.isEmpty)&&(T et).known&&okC (T et).zero) (mapOf m h fun es rd=>vD k fun kd=>aP (bY (T kt) kd)
   ((∀ e∈es,bY (T kt) e.1=true)∧vD (EY (T et).zero) fun z=>match commaOk with
     | false=>K (.d ((look es kd).getD z)) [] rd []
     | true=>K (.tuple [.d ((look es kd).getD z),.d (.bool (look es kd).isSome)]) [] rd []))
 | _,_=>False
theorem KQ (hT:TOK P T) {t kt et:Nat} (hk:(T t).k = .map kt et) (h1:(T kt).known=true) (h2:(!(T kt).ks.isEmpty)=true) (h3:(T et).known=true) {ok:Nat→Prop} {w:World} {vm vk:Value} {es:List (D×D)} {k z:D}
  (hm:HasMap ok w vm es) (hkd:RdD ok w vk k) (hfit:bY (T kt) k=true) (hf:∀ e∈es,bY (T kt) e.1=true) (hz:RdD ok w (T et).zero z) (c:Bool) :
  ∃ v,(Instr.lookup t vm vk c).run P w = .ok (if c then .tuple #[v,.bool (look es k).isSome] else v) w∧RdD ok w v ((look es k).getD z):=by
 have hu:=hT.map hk;have hKT:=hT.Y5 h1 h2;obtain ⟨d,i,hfe⟩:=hT.facts (TE.bP h3);have hzero:(zeroValue et).run P w = .ok (T et).zero w:=by simp [zeroValue,typeInfo,hfe.info,hfe.zero]
 have hck:∀ em,(Instr.checkKey em 10000 kt vk).run P w = .ok () w:=fun em=>nZ hKT hkd hfit em
 rcases hm with ⟨rfl,rfl⟩ | ⟨r,ents,clock,rfl,e2,e3,e4⟩
 ·refine ⟨(T et).zero,?_,hz⟩;have hfk:(Instr.findKey kt vk []).run P w = .ok none w:=by
   rw [kZ hKT hkd hfit [] [] rfl (fun j m e h=>by simp at h) hf];simp [Instr.findAsking]
  cases c<;>simp [Instr.lookup,run_underlying hu,hck,hfk,hzero,look]
 ·have hfa:=jc hKT hkd hfit ents.toList es 0 (by simpa using e3) (fun j m e hm he=>(e4 j m e (by simpa using hm) he).1) hf;have hfk:=kZ hKT hkd hfit ents.toList es (by simpa using e3) (fun j m e hm he=>(e4 j m e (by simpa using hm) he).1) hf;rcases hfa with ⟨q1,q2,_,_⟩ | ⟨j,m,e,q1,q2,q3,q4,_,_,_⟩
  ·rw [q1] at hfk;have hl:look es k=none:=(by rw [wR es k 0,q2];rfl);refine ⟨(T et).zero,?_,by rw [hl];exact hz⟩;cases c<;>simp [Instr.lookup,run_underlying hu,hck,hfk,hzero,hl,Go.MapKept.run_getObj_map e2]
  ·rw [q1] at hfk;have hl:look es k=some e.2:=(by rw [wR es k 0,q4];rfl);refine ⟨m.val,?_,by rw [hl];exact (e4 j m e (by simpa using q2) q3).2⟩;cases c<;>simp [Instr.lookup,run_underlying hu,hck,hfk,hl,Go.MapKept.run_getObj_map e2]
theorem EH (hT:TOK P T) {o:Oper} {t:Nat} {x y:Operand} {c:Bool} (ho:o.op = .lookup t x y c) {vals:List V} {h:Key→Option Res} {K:KK} (hK:EI T (T t) c vals h K) :
  ∃ x δ rd nw,K x δ rd nw∧aC P o vals h x δ rd nw:=by
 unfold EI at hK;split at hK
 ·rename_i kt et m k hk;obtain ⟨hb,hK⟩:=ah hK;simp only [Bool.and_eq_true] at hb;obtain ⟨⟨⟨b1,b2⟩,b3⟩,b4⟩:=hb;obtain ⟨es,rd,hK,hm⟩:=DT hK;obtain ⟨kd,hK,hkd⟩:=kU hK;obtain ⟨hfit,hf,hK⟩:=ah hK;obtain ⟨z,hK,hz⟩:=kU hK;have main:∀ (β:Nat→Value) (u ok:Nat→Prop) (w:World) (ρ:Operand→Value) (e:Operand→V),(∀ q∈o.op.operands.toList,RdV β u ok w (ρ q) (e q))→o.op.operands.toList.map e=[m,k] →
    (∀ k∈rd,∀ r,h k=some r→Own β u ok w k r)→∃ v,(execOp ρ o).run P w = .ok (.value (if c then .tuple #[v,.bool (look es kd).isSome] else v)) w∧RdD ok w v ((look es kd).getD z):=by
   intro β u ok w ρ e g1 g2 g3;simp only [ho,Op.operands,List.map_cons,List.map_nil,List.cons.injEq,and_true] at g1 g2;have hx:=g1 x (by simp);have hy:=g1 y (by simp);rw [g2.1] at hx;rw [g2.2] at hy;obtain ⟨v,q1,q2⟩:=KQ hT hk b1 b2 b3 (hm β u ok w _ hx g3) (hkd β u ok w _ hy) hfit hf (hz β u ok w _ (zi β u ok w _ b4)) c;exact ⟨v,by simp [execOp,ho,q1],q2⟩
  cases c with
  | false=>
    refine ⟨_,_,_,_,hK,aC.bJ fun β u ok w ρ e g1 g2 g3=>?_⟩;obtain ⟨v,q1,q2⟩:=main β u ok w ρ e g1 g2 g3;exact ⟨v,by simpa using q1,.d _ _ q2⟩
  | true=>
    refine ⟨_,_,_,_,hK,aC.bJ fun β u ok w ρ e g1 g2 g3=>?_⟩;obtain ⟨v,q1,q2⟩:=main β u ok w ρ e g1 g2 g3;refine ⟨.tuple #[v,.bool (look es kd).isSome],by simpa using q1,.tuple _ _ rfl (fun i v' x' h1 h2=>?_)⟩
    match i with
    | 0=>simp at h1 h2;subst h1;subst h2;exact .d _ _ q2
    | 1=>simp at h1 h2;subst h1;subst h2;exact .d _ _ (.bool _)
    | i+2=>simp at h2
 ·exact hK.elim
def tJ (T:Nat→TE) (te:TE) (vals:List V) (h:Key→Option Res) (K:KK):Prop:=
 match te.k,vals with
 | .map kt _,[.map id,k,v]=>aP ((T kt).known&&(!(T kt).ks.isEmpty)) (Ei (h (id,0)) fun es=>vD k fun kd=>vD v fun vd=>aP (bY (T kt) kd)
   ((∀ e∈es,bY (T kt) e.1=true)∧K .any [((id,0),some (.map (oC es kd vd)))] [(id,0)] []))
 | _,_=>False
theorem CW (hT:TOK P T) {t kt et:Nat} (hk:(T t).k = .map kt et) (h1:(T kt).known=true) (h2:(!(T kt).ks.isEmpty)=true) {ok:Nat→Prop} {w:World} {vk vv:Value} {es:List (D×D)} {k x:D} {r clock:Nat} {ents:Array MapEntry}
  (e2:w.heap[r]?=some (.map ents clock)) (e3:ents.size=es.length) (e4:∀ (i:Nat) (m:MapEntry) (e:D×D),ents[i]?=some m→es[i]?=some e→RdD ok w m.key e.1∧RdD ok w m.val e.2)
  (hbn:Born ents clock) (hkd:RdD ok w vk k) (hv:RdD ok w vv x) (hfit:bY (T kt) k=true) (hf:∀ e∈es,bY (T kt) e.1=true) :
  ∃ ents' clock',(Instr.mapUpdate t (.map (some r)) vk vv).run P w = .ok () (dh w r (.map ents' clock'))∧ents'.size=(oC es k x).length ∧
    (∀ (i:Nat) (m:MapEntry) (e:D×D),ents'[i]?=some m→(oC es k x)[i]?=some e→RdD ok w m.key e.1∧RdD ok w m.val e.2)∧Born ents' clock':=by
 have hu:=hT.map hk;have hKT:=hT.Y5 h1 h2;have hck:∀ em,(Instr.checkKey em 10000 kt vk).run P w = .ok () w:=fun em=>nZ hKT hkd hfit em
 have hfa:=jc hKT hkd hfit ents.toList es 0 (by simpa using e3) (fun j m e hm he=>(e4 j m e (by simpa using hm) he).1) hf;have hfk:=kZ hKT hkd hfit ents.toList es (by simpa using e3) (fun j m e hm he=>(e4 j m e (by simpa using hm) he).1) hf;rcases hfa with ⟨q1,q2,q3,_⟩ | ⟨j,m,e,q1,q2,q3,q4,q5,q6,_⟩
 ·rw [q1] at hfk;refine ⟨ents.push { key:=vk,val:=vv,born:=clock },clock+1,?_,by rw [q3];simp [e3],fun i m e hm he=>?_,hbn.push vk vv⟩
  ·simp [Instr.mapUpdate,run_underlying hu,Go.MapKept.run_getObj_map e2,hck,hfk,Go.MapKept.run_setObj_map _ e2,dh]
  ·rw [q3] at he;rcases Nat.lt_or_ge i ents.size with hi | hi
   ·rw [Array.getElem?_push,if_neg (by omega)] at hm;rw [List.getElem?_append_left (by omega)] at he;exact e4 i m e hm he
   ·have hie:i=ents.size:=by
     have:=(Array.getElem?_eq_some_iff.1 hm).1;simp at this;omega
    subst hie;rw [e3,List.getElem?_append_right (Nat.le_refl _)] at he;simp at hm he;subst hm;subst he;exact ⟨hkd,hv⟩
 ·rw [q1] at hfk;have q2':ents[j]?=some m:=by simpa using q2
  have hj:j<ents.size:=(Array.getElem?_eq_some_iff.1 q2').1;have hks:=run_keyThatStays (P:=P) (w:=w) hkd (e4 j m e q2' q3).1 hfit (hf e (List.mem_of_getElem? q3)) q5;refine ⟨ents.modify j fun e=>{ e with key:=vk,val:=vv },clock,?_,by rw [q6];simp [e3],fun i m' e' hm he=>?_,hbn.modify j vk vv⟩
  ·simp [Instr.mapUpdate,run_underlying hu,Go.MapKept.run_getObj_map e2,hck,hfk,q2',hks,Go.MapKept.run_setObj_map _ e2,dh]
  ·rw [q6] at he;by_cases hij:j=i
   ·subst hij;rw [List.getElem?_set_self (by omega)] at he;rw [Array.getElem?_modify,if_pos rfl,q2'] at hm;simp at he hm;subst hm;subst he;exact ⟨hkd,hv⟩
   ·rw [List.getElem?_set_ne hij] at he;rw [Array.getElem?_modify,if_neg hij] at hm;exact e4 i m' e' hm he
theorem nT (hT:TOK P T) {o:Oper} {t:Nat} {x y z:Operand} (ho:o.op = .mapUpdate t x y z) {vals:List V} {h:Key→Option Res} {K:KK} (hK:tJ T (T t) vals h K) :
  ∃ x δ rd nw,K x δ rd nw∧aC P o vals h x δ rd nw:=by
 unfold tJ at hK;split at hK
 ·rename_i kt et id k v hk;obtain ⟨hb,hK⟩:=ah hK;simp only [Bool.and_eq_true] at hb;obtain ⟨es,he,hK⟩:=sQ hK;obtain ⟨kd,hK,hkd⟩:=kU hK;obtain ⟨vd,hK,hvd⟩:=kU hK;obtain ⟨hfit,hf,hK⟩:=ah hK;refine ⟨_,_,_,_,hK,aC.of_run fun C β ok s a w hr g1 g2 g3 g4 g5=>?_⟩;simp only [ho,Op.operands,List.map_cons,List.map_nil,List.cons.injEq,and_true] at g1 g5;have hx:=hr.eval x (g5 x (by simp));have hy:=hr.eval y (g5 y (by simp));have hz:=hr.eval z (g5 z (by simp));rw [g1.1] at hx;rw [g1.2.1] at hy;rw [g1.2.2] at hz;have hs:s.hp (id,0)=some (.map es):=by rw [g2 _ (by simp),he]
  obtain ⟨_,_,r,ents,clock,e1,e2,e3,e4,e5⟩:=h_own hr hs;generalize hvx:a.eval x=vx at hx;cases hx with
  | map _ r' p1 p2=>
    simp only at e1;rw [p2] at e1;have e:r'=r:=(by simpa using e1);subst e;obtain ⟨ents',clock',f1,f2,f3,f4⟩:=CW hT hk hb.1 hb.2 e2 e3 e4 e5 (hkd β s.used ok w _ hy) (hvd β s.used ok w _ hz) hfit hf;exact ⟨undef,dh w r' (.map ents' clock'),.inr ⟨by simp [execOp,ho,hvx,f1],rfl⟩,β,ok,hr.CG g4 hs p2 e2 f2 f3 f4 undef⟩
 ·exact hK.elim
 where h_own {C:Ctx} {β:Nat→Value} {ok:Nat→Prop} {s:S} {a:Act} {w:World} (hr:RelB C β ok s a w) {id:Nat} {es:List (D×D)} (hs:s.hp (id,0)=some (.map es)):s.used id∧Own β s.used ok w (id,0) (.map es):=hr.heap _ _ hs
def EM (T:Nat→TE) (te:TE) (vals:List V) (h:Key→Option Res) (K:KK):Prop:=
 match te.k,vals with
 | .map kt _,[.map id,k]=>aP ((T kt).known&&(!(T kt).ks.isEmpty)) (Ei (h (id,0)) fun es=>vD k fun kd=>aP (bY (T kt) kd)
   ((∀ e∈es,bY (T kt) e.1=true)∧K .any [((id,0),some (.map (F7 es kd)))] [(id,0)] []))
 | _,_=>False
theorem EL (hT:TOK P T) {o:Oper} {t t':Nat} {x y:Operand} (ho:o.op = .call { callee := .builtin .delete,args:=#[x,y],argTypes:=#[t,t'] }) {vals:List V} {h:Key→Option Res} {K:KK} (hK:EM T (T t) vals h K) :
  ∃ x δ rd nw,K x δ rd nw∧aC P o vals h x δ rd nw:=by
 unfold EM at hK;split at hK
 ·rename_i kt et id k hk;obtain ⟨hb,hK⟩:=ah hK;simp only [Bool.and_eq_true] at hb;obtain ⟨es,he,hK⟩:=sQ hK;obtain ⟨kd,hK,hkd⟩:=kU hK;obtain ⟨hfit,hf,hK⟩:=ah hK;refine ⟨_,_,_,_,hK,aC.of_run fun C β ok s a w hr g1 g2 g3 g4 g5=>?_⟩;simp only [ho,Op.operands,Call.operands] at g1 g5;simp at g1 g5;have hx:=hr.eval x g5.1;have hy:=hr.eval y g5.2;rw [g1.1] at hx;rw [g1.2] at hy;have hs:s.hp (id,0)=some (.map es):=by rw [g2 _ (by simp),he]
  obtain ⟨_,_,r,ents,clock,e1,e2,e3,e4,e5⟩:=nT.h_own hr hs;generalize hvx:a.eval x=vx at hx;cases hx with
  | map _ r' p1 p2=>
    simp only at e1;rw [p2] at e1;have e:r'=r:=(by simpa using e1);subst e;have hu:=hT.map hk;have hKT:=hT.Y5 hb.1 hb.2;have hky:=hkd β s.used ok w _ hy;have hck:∀ em,(Instr.checkKey em 10000 kt (a.eval y)).run P w = .ok () w:=fun em=>nZ hKT hky hfit em
    have hfa:=jc hKT hky hfit ents.toList es 0 (by simpa using e3) (fun j m e hm he=>(e4 j m e (by simpa using hm) he).1) hf;have hfk:=kZ hKT hky hfit ents.toList es (by simpa using e3) (fun j m e hm he=>(e4 j m e (by simpa using hm) he).1) hf;rcases hfa with ⟨q1,q2,_,q4⟩ | ⟨j,m,e,q1,q2,q3,_,_,_,q7⟩
    ·rw [q1] at hfk;refine ⟨.tuple #[],dh w r' (.map ents clock),.inl ?_,β,ok,hr.CG g4 hs p2 e2 (by rw [q4];exact e3) (by rw [q4];exact e4) e5 _⟩;simp [execOp,ho,resolve,invoke,builtin,Builtin.delete_,hvx,run_underlying hu,Go.MapKept.run_getObj_map e2,hck,hfk,Go.MapKept.run_setObj_map _ e2,dh]
    ·rw [q1] at hfk;have hj:j<ents.size:=(by have:=(List.getElem?_eq_some_iff.1 q2).1;simpa using this);have hdel:(ents.eraseIdxIfInBounds j).toList=ents.toList.eraseIdx j:=(by unfold Array.eraseIdxIfInBounds;rw [dif_pos hj];exact Array.toList_eraseIdx);refine ⟨.tuple #[],dh w r' (.map (ents.eraseIdxIfInBounds j) clock),.inl ?_,β,ok,hr.CG g4 hs p2 e2 ?_ (fun i m' e' hm he'=>?_) (e5.erase hdel) _⟩
     ·simp [execOp,ho,resolve,invoke,builtin,Builtin.delete_,hvx,run_underlying hu,Go.MapKept.run_getObj_map e2,hck,hfk,Go.MapKept.run_setObj_map _ e2,dh]
     ·rw [q7,← Array.length_toList,hdel,List.length_eraseIdx,List.length_eraseIdx];simp only [Array.length_toList,e3]
     ·rw [q7] at he';have hm2:(ents.toList.eraseIdx j)[i]?=some m':=(by rw [← hdel,Array.getElem?_toList];exact hm);rw [List.getElem?_eraseIdx] at hm2 he';split at hm2
      ·rename_i h1;rw [if_pos h1] at he';exact e4 i m' e' (by simpa using hm2) he'
      ·rename_i h1;rw [if_neg h1] at he';exact e4 (i+1) m' e' (by simpa using hm2) he'
 ·exact hK.elim
def EK (te:TE) (vals:List V) (h:Key→Option Res) (K:KK):Prop:=
 match te.k,vals with
 | .map _ _,[m]=>mapOf m h fun es rd=>K (.d (.int .i64 es.length)) [] rd []
 | _,_=>False
theorem EJ (hT:TOK P T) {o:Oper} {t:Nat} {x:Operand} (ho:o.op = .call { callee := .builtin .len,args:=#[x],argTypes:=#[t] }) {vals:List V} {h:Key→Option Res} {K:KK} (hK:EK (T t) vals h K) :
  ∃ x δ rd nw,K x δ rd nw∧aC P o vals h x δ rd nw:=by
 unfold EK at hK;split at hK
 ·rename_i kt et m hk;obtain ⟨es,rd,hK,hm⟩:=DT hK;refine ⟨_,_,_,_,hK,aC.bJ fun β u ok w ρ e g1 g2 g3=>?_⟩;simp only [ho,Op.operands,Call.operands] at g1 g2;simp at g1 g2;rw [g2] at g1;have hu:=hT.map hk;rcases hm β u ok w _ g1 g3 with ⟨e1,rfl⟩ | ⟨r,ents,clock,e1,e2,e3,_⟩
  ·exact ⟨.int .i64 (0:Nat),by simp [execOp,ho,resolve,invoke,builtin,Builtin.len_,run_underlying hu,e1,goInt],.d _ _ (.int _ _)⟩
  ·exact ⟨.int .i64 es.length,by simp [execOp,ho,resolve,invoke,builtin,Builtin.len_,run_underlying hu,e1,Go.MapKept.run_getObj_map e2,goInt,e3],.d _ _ (.int _ _)⟩
 ·exact hK.elim
def Vx (vals:List V) (K:KK):Prop:=
 match vals with
 | [x,y]=>Bc x fun k a=>Bc y fun k' b=>lW k k' (K (.d (.int k (if b>a then b else a))) [] [] [])
 | _=>False
theorem MV {o:Oper} {x y:Operand} {ts:Array Nat} (ho:o.op = .call { callee := .builtin .max,args:=#[x,y],argTypes:=ts }) {vals:List V} {h:Key→Option Res} {K:KK} (hK:Vx vals K) :
  ∃ x δ rd nw,K x δ rd nw∧aC P o vals h x δ rd nw:=by
 unfold Vx at hK;split at hK
 ·rename_i vx vy;obtain ⟨k,a,rfl,hK1⟩:=eU hK;obtain ⟨k',b,rfl,hK2⟩:=eU hK1;obtain ⟨rfl,hK3⟩:=bf hK2;refine ⟨_,_,_,_,hK3,aC.bJ fun β u ok w ρ e g1 g2 g3=>?_⟩;simp only [ho,Op.operands,Call.operands] at g1 g2;simp at g1 g2;have h1:=g1.1;have h2:=g1.2;rw [g2.1] at h1;rw [g2.2] at h2;have h1':=h1.fB;have h2':=h2.fB;generalize hvx:ρ x=vx at h1';generalize hvy:ρ y=vy at h2';cases h1';cases h2';exact ⟨.int k (if b>a then b else a),by simp [execOp,ho,resolve,invoke,builtin,Builtin.max_,Builtin.max2,hvx,hvy],.d _ _ (.int _ _)⟩
 ·exact hK.elim
end
section
variable {P:Program} {T:Nat→TE}
def Ez (fs:List (Nat×Nat×Bool)) (f:Nat) (K:Nat→Nat→Bool→Prop):Prop:=
 match fs,f with
 | (fo,fsz,fb)::_,0=>K fo fsz fb
 | _::fs,f+1=>Ez fs f K
 | [],_=>False
theorem vY:∀ {fs:List (Nat×Nat×Bool)} {f:Nat} {K:Nat→Nat→Bool→Prop},Ez fs f K→∃ fo fsz fb,fs[f]?=some (fo,fsz,fb)∧K fo fsz fb
 | (fo,fsz,fb)::fs,0,K,h=>⟨fo,fsz,fb,rfl,h⟩
 | _::fs,f+1,K,h=>by
   obtain ⟨fo,fsz,fb,h1,h2⟩:=vY (fs:=fs) (f:=f) h;exact ⟨fo,fsz,fb,by simpa using h1,h2⟩
 | [],_,K,h=>h.elim
def Xj {α:Type}:List α→Nat→(α→Prop)→Prop
 | [],_,_=>False
 | x::_,0,K=>K x
 | _::xs,n+1,K=>Xj xs n K
theorem zq {α:Type}:∀ {xs:List α} {n:Nat} {K:α→Prop},Xj xs n K→∃ x,xs[n]?=some x∧K x
 | [],_,_,h=>h.elim
 | x::_,0,K,h=>⟨x,rfl,h⟩
 | _::xs,n+1,K,h=>by
   obtain ⟨x,h1,h2⟩:=zq (xs:=xs) (n:=n) h;exact ⟨x,by simpa using h1,h2⟩
def VL {α:Type}:List α→Nat→Nat→(List α→Prop)→Prop
 | _,0,0,K=>K []
 | [],_,_,_=>False
 | x::xs,0,n+1,K=>VL xs 0 n fun r=>K (x::r)
 | _::xs,o+1,n,K=>VL xs o n K
theorem uS {α:Type}:∀ {xs:List α} {o n:Nat} {K:List α→Prop},VL xs o n K→o+n≤xs.length∧K ((xs.drop o).take n)
 | [],0,0,K,h=>⟨by simp,h⟩
 | _::_,0,0,K,h=>⟨by simp,h⟩
 | [],0,n+1,_,h=>h.elim
 | [],o+1,n,_,h=>h.elim
 | x::xs,0,n+1,K,h=>by
   obtain ⟨h1,h2⟩:=uS (xs:=xs) (o:=0) (n:=n) h;exact ⟨by simp at h1 ⊢;omega,by simpa using h2⟩
 | _::xs,o+1,n,K,h=>by
   obtain ⟨h1,h2⟩:=uS (xs:=xs) (o:=o) (n:=n) h;exact ⟨by simp at h1 ⊢;omega,by simpa using h2⟩
def QT (te:TE) (f:Nat) (vals:List V) (K:KK):Prop:=
 Ez te.fields f fun fo fsz fb=>
  match vals with
  | [.d x]=>match x with
    | .agg cs=>match fb with
      | true=>VL cs fo fsz fun r=>K (.d (.agg r)) [] [] []
      | false=>Xj cs fo fun d=>K (.d d) [] [] []
    | _=>False
  | [.agg cs]=>match fb with
    | true=>VL cs fo fsz fun r=>K (DL r) [] [] []
    | false=>Xj cs fo fun v=>K v [] [] []
  | _=>False
theorem uw (hT:TOK P T) {t f:Nat} {fs:List (Nat×Nat×Bool)} {fo fsz:Nat} {fb:Bool} (hk:(T t).k = .agg fs) (hf:fs[f]?=some (fo,fsz,fb)) (us:Array Value) (w:World) :
  (fb=true→fo+fsz≤us.size→(Instr.field t (.agg us) f).run P w = .ok (.agg (us.extract fo (fo+fsz))) w)∧(fb=false→∀ u,us[fo]?=some u→(Instr.field t (.agg us) f).run P w = .ok u w):=by
 obtain ⟨d,i,h⟩:=hT.facts (t:=t) (by rw [hk];intro e;cases e);have hd:=h.k;rw [hk] at hd;cases d
 case struct fields=>
  simp only [kOf] at hd;split at hd
  case isFalse=>cases hd
  rename_i hall;simp only [TK.agg.injEq] at hd;subst hd;simp only [List.getElem?_map,Option.map_eq_some_iff] at hf;obtain ⟨fd,hfd,he⟩:=hf;simp only [Prod.mk.injEq] at he;obtain ⟨rfl,rfl,rfl⟩:=he;have hfd':fields[f]?=some fd:=by simpa using hfd
  have h1:=(Bool.and_eq_true _ _).mp (List.all_eq_true.1 hall fd (List.mem_of_getElem? hfd));obtain ⟨ii,hii⟩:=Option.isSome_iff_exists.1 h1.1;obtain ⟨dd,hdd⟩:=Option.isSome_iff_exists.1 h1.2;have hagg:=zB (P:=P) hdd w;have hsz:P.cellsOf fd.type=ii.size:=by simp [Program.cellsOf,hii]
  have hrun:(Instr.field t (.agg us) f).run P w=((Go.part fd.type us fd.offset).run P w):=by
   simp [Instr.field,run_underlying h.und,hfd',Go.asAgg]
  refine ⟨fun hb _=>?_,fun hb u hu=>?_⟩
  ·rw [hb] at hagg;rw [hrun];simp [Go.part,hagg,Go.sizeOf,typeInfo,hii,hsz]
  ·rw [hb] at hagg;rw [hrun];simp [Go.part,hagg,hu]
 all_goals (simp only [kOf] at hd;first | (split at hd<;>cases hd) | cases hd)
theorem FY (hT:TOK P T) {o:Oper} {t f:Nat} {x:Operand} (ho:o.op = .field t x f) {vals:List V} {h:Key→Option Res} {K:KK} (hK:QT (T t) f vals K) :
  ∃ x δ rd nw,K x δ rd nw∧aC P o vals h x δ rd nw:=by
 obtain ⟨fo,fsz,fb,h1,hK⟩:=vY hK;obtain ⟨fs,hk,hfs⟩:∃ fs,(T t).k = .agg fs∧(T t).fields=fs:=by
  unfold TE.fields at h1 ⊢;split at h1
  ·rename_i fs hk;exact ⟨fs,hk,rfl⟩
  ·simp at h1
 rw [hfs] at h1;split at hK
 ·rename_i x0;split at hK
  ·rename_i cs;split at hK
   ·obtain ⟨hle,hK⟩:=uS hK;refine ⟨_,_,_,_,hK,aC.bJ fun β u ok w ρ e g1 g2 g3=>?_⟩;simp only [ho,Op.operands,List.map_cons,List.map_nil,List.cons.injEq,and_true] at g1 g2;have hx:=g1 x (by simp);rw [g2] at hx;have hx':=hx.fB;generalize hvx:ρ x=vx at hx';cases hx' with
    | agg us _ e1 e2 e3=>
      refine ⟨_,by simp only [execOp,ho,hvx];rw [Sem.run_bind,(uw hT hk h1 us w).1 rfl (by omega)];rfl,.d _ _ (RdD.Qd (.agg us cs e1 e2 e3) fo fsz hle)⟩
   ·obtain ⟨d,hd,hK⟩:=zq hK;refine ⟨_,_,_,_,hK,aC.bJ fun β u ok w ρ e g1 g2 g3=>?_⟩;simp only [ho,Op.operands,List.map_cons,List.map_nil,List.cons.injEq,and_true] at g1 g2;have hx:=g1 x (by simp);rw [g2] at hx;have hx':=hx.fB;generalize hvx:ρ x=vx at hx';cases hx' with
    | agg us _ e1 e2 e3=>
      have hi:fo<us.size:=(by rw [e1];exact (List.getElem?_eq_some_iff.1 hd).1);refine ⟨us[fo],by simp only [execOp,ho,hvx];rw [Sem.run_bind,(uw hT hk h1 us w).2 rfl us[fo] (by simp [hi])];rfl,.d _ _ (e2 fo _ _ (by simp [hi]) hd)⟩
  ·exact hK.elim
 ·rename_i cs;split at hK
  ·obtain ⟨hle,hK⟩:=uS hK;refine ⟨_,_,_,_,hK,aC.bJ fun β u ok w ρ e g1 g2 g3=>?_⟩;simp only [ho,Op.operands,List.map_cons,List.map_nil,List.cons.injEq,and_true] at g1 g2;have hx:=g1 x (by simp);rw [g2] at hx;generalize hvx:ρ x=vx at hx;cases hx with
   | agg us _ e1 e2 e3=>
     refine ⟨_,by simp only [execOp,ho,hvx];rw [Sem.run_bind,(uw hT hk h1 us w).1 rfl (by omega)];rfl,rV (by simp;omega) (fun i v c hv hc=>?_) (fun i v hv=>?_)⟩
     ·obtain ⟨hi,he⟩:=Array.getElem?_eq_some_iff.1 hv;rw [Array.getElem_extract] at he;simp at hi;rw [List.getElem?_take_of_lt (by omega),List.getElem?_drop] at hc;exact e2 (fo+i) v c (Array.getElem?_eq_some_iff.2 ⟨by omega,he⟩) hc
     ·obtain ⟨hi,he⟩:=Array.getElem?_eq_some_iff.1 hv;rw [Array.getElem_extract] at he;simp at hi;exact e3 (fo+i) v (Array.getElem?_eq_some_iff.2 ⟨by omega,he⟩)
  ·obtain ⟨d,hd,hK⟩:=zq hK;refine ⟨_,_,_,_,hK,aC.bJ fun β u ok w ρ e g1 g2 g3=>?_⟩;simp only [ho,Op.operands,List.map_cons,List.map_nil,List.cons.injEq,and_true] at g1 g2;have hx:=g1 x (by simp);rw [g2] at hx;generalize hvx:ρ x=vx at hx;cases hx with
   | agg us _ e1 e2 e3=>
     have hi:fo<us.size:=(by rw [e1];exact (List.getElem?_eq_some_iff.1 hd).1);refine ⟨us[fo],by simp only [execOp,ho,hvx];rw [Sem.run_bind,(uw hT hk h1 us w).2 rfl us[fo] (by simp [hi])];rfl,e2 fo _ _ (by simp [hi]) hd⟩
 ·exact hK.elim
end
end Go.Abs
