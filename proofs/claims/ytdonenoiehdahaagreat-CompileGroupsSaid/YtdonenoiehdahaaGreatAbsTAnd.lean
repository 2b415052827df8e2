/- The contract of a function that reads or writes what the caller owns, and calls by it. -/
import Derived.Test.YtdonenoiehdahaaGreatAbsWAnd
import Derived.Test.YtdonenoiehdahaaGreatAbsFAnd
import Derived.Test.YtdonenoiehdahaaGreatAbsO3And
import Derived.Still
set_option linter.all false
namespace Go.Abs
open Go Go.RowKit
def ql:Res→Bool
 | .rows _ _ _=>false
 | _=>true
theorem Blk.plain {β:Nat→Value} {w:World} {k:Key} {r:Res} {b:Nat} (hp:ql r=true) (h:Blk β w k r b):aF (β k.1)=some b:=by
 rcases h with h | h
 ·exact h
 ·cases r<;>first | exact h.elim | cases hp
def oL (β:Nat→Value) (pre:List (Key×Res)) (b o:Nat):Prop:=
 ∃ k r,(k,r)∈pre∧aF (β k.1)=some b∧match r with | .cell _=>o=k.2 | _=>True
def resV:List V→V
 | [v]=>v
 | vs => .tuple vs
structure jg (P:Program) (f:FuncId) (U:List Nat) (as:List V) (pre:List (Key×Res)) (news:List Nat) (xs:List V) (post:List (Key×Res)):Prop where
 there:∃ fn,P.funcs[f]?=some fn∧(fn.name == "runtime.NumGoroutine")=false∧fn.body.isNone=false
 plain:∀ k r,(k,r)∈post→ql r=true
 calls:∀ (β:Nat→Value) (ok:Nat→Prop) (w:World) (vs:Array Value),GOK ok w→(∀ b,ok b→b<w.heap.size)→vs.size=as.length →
  (∀ (i:Nat) v a,vs[i]?=some v→as[i]?=some a→RdV β (fun i=>i∈U) ok w v a) →
  (∀ k r,(k,r)∈pre→k.1∈U∧Own β (fun i=>i∈U) ok w k r) →
  (∀ k r b,(k,r)∈pre→aF (β k.1)=some b→¬ ok b∧b<w.heap.size) →
  (∀ k k' r r' b,(k,r)∈pre→(k',r')∈pre→aF (β k.1)=some b→aF (β k'.1)=some b→k.1=k'.1) →
  Calls P f vs w fun e w'=>∃ v β' ok',e = .returned v∧(∀ i,i∈U→β' i=β i)∧RdV β' (fun i=>i∈U∨i∈news) ok' w' v (resV xs) ∧
   (∀ k r,(k,r)∈post→(k.1∈U∨k.1∈news)∧Own β' (fun i=>i∈U∨i∈news) ok' w' k r) ∧
   (∀ k r b,(k,r)∈post→aF (β' k.1)=some b→¬ ok' b∧b<w'.heap.size∧(b<w.heap.size→match r with | .cell _=>k.1∈U∧oL β pre b k.2 | _=>∀ o,oL β pre b o)) ∧
   (∀ k k' r r' b,(k,r)∈post→(k',r')∈post→aF (β' k.1)=some b→aF (β' k'.1)=some b→k.1=k'.1) ∧
   (∀ b,ok' b→b<w'.heap.size)∧(∀ b,ok b→ok' b)∧(∀ b,ok' b→ok b∨w.heap.size≤b∨∀ o,oL β pre b o)∧Frame (oL β pre) w w'
def bg:List (Nat×Nat)→Nat→Nat
 | [],i=>i
 | (a,b)::m,i=>match Nat.beq a i with | true=>b | false=>bg m i
def IJ (m:List (Nat×Nat)):V→V
 | .ptr id off => .ptr (bg m id) off
 | .sl id sz off len => .sl (bg m id) sz off len
 | .ael id sz i off => .ael (bg m id) sz i off
 | .map id => .map (bg m id)
 | .d x => .d x
 | .bZ => .bZ
 | .emp => .emp
 | _ => .any
def yD (m:List (Nat×Nat)):V→V
 | .func fn [] cs => .func fn [] (cs.map (IJ m))
 | v=>IJ m v
def Nh (m:List (Nat×Nat)):V→V
 | .agg cs => .agg (cs.map (yD m))
 | .tuple cs => .tuple (cs.map (yD m))
 | v=>yD m v
def P5 (m:List (Nat×Nat)):Res→Res
 | .cell v => .cell (yD m v)
 | r=>r
def kQ (m:List (Nat×Nat)) (k:Key):Key:=(bg m k.1,k.2)
theorem RdV.af4 {β β':Nat→Value} {u u' ok:Nat→Prop} {w:World} {m:List (Nat×Nat)} (hu:∀ i,u i→u' (bg m i)∧β' (bg m i)=β i) {v:Value} {x:V} (h:RdV β u ok w v x):RdV β' u' ok w v (IJ m x):=by
 cases h with
 | d v x h=>exact .d _ _ h
 | bZ=>exact .bZ
 | emp a=>exact .emp a
 | ptr id off b h1 h2=>exact .ptr _ _ b (hu _ h1).1 ((hu _ h1).2.trans h2)
 | sl id sz off len n cap a0 a h1 h2 h3 h4 h5=>exact .sl _ _ _ _ n cap a0 a (hu _ h1).1 ((hu _ h1).2.trans h2) h3 h4 h5
 | ael id sz i off b o n cap h1 h2=>exact .ael _ _ _ _ b o n cap (hu _ h1).1 ((hu _ h1).2.trans h2)
 | map id r h1 h2=>exact .map _ r (hu _ h1).1 ((hu _ h1).2.trans h2)
 | _=>exact .any _
theorem RdV.P6 {β β':Nat→Value} {u u' ok:Nat→Prop} {w:World} {m:List (Nat×Nat)} (hu:∀ i,u i→u' (bg m i)∧β' (bg m i)=β i) {v:Value} {x:V} (h:RdV β u ok w v x):RdV β' u' ok w v (yD m x):=by
 cases h with
 | any v=>exact .any _
 | undef=>exact .any _
 | d v x h=>exact .d _ _ h
 | bZ=>exact .bZ
 | emp a=>exact .emp a
 | ptr id off b h1 h2=>exact .ptr _ _ b (hu _ h1).1 ((hu _ h1).2.trans h2)
 | sl id sz off len n cap a0 a h1 h2 h3 h4 h5=>exact .sl _ _ _ _ n cap a0 a (hu _ h1).1 ((hu _ h1).2.trans h2) h3 h4 h5
 | ael id sz i off b o n cap h1 h2=>exact .ael _ _ _ _ b o n cap (hu _ h1).1 ((hu _ h1).2.trans h2)
 | map id r h1 h2=>exact .map _ r (hu _ h1).1 ((hu _ h1).2.trans h2)
 | rsl id len cap a h1 h2=>exact .any _
 | jP id i b o n cap h1 h2=>exact .any _
 | func fn fs cs f c h1 h2 h3 h4=>
   match f,h1 with
   | [],h1=>exact .func fn fs cs [] _ h1 (by rw [h2,List.length_map]) (fun i v x _ hx=>by simp at hx) (fun i v x hv hx=>by
     simp only [List.getElem?_map,Option.map_eq_some_iff] at hx;obtain ⟨c0,hc0,rfl⟩:=hx
     exact (h4 i v c0 hv hc0).af4 hu)
   | _::_,_=>exact .any _
 | agg vs cs h1 h2 h3=>exact .any _
 | tuple vs cs h1 h2=>exact .any _
theorem RdV.ren {β β':Nat→Value} {u u' ok:Nat→Prop} {w:World} {m:List (Nat×Nat)} (hu:∀ i,u i→u' (bg m i)∧β' (bg m i)=β i) {v:Value} {x:V} (h:RdV β u ok w v x):RdV β' u' ok w v (Nh m x):=by
 have pick:∀ (vs:Array Value) (cs:List V),(∀ (i:Nat) v c,vs[i]?=some v→cs[i]?=some c→RdV β u ok w v c)→∀ (i:Nat) v c,vs[i]?=some v→(cs.map (yD m))[i]?=some c→RdV β' u' ok w v c:=fun vs cs hh i v c hv hc=>by
  simp only [List.getElem?_map,Option.map_eq_some_iff] at hc;obtain ⟨c0,hc0,rfl⟩:=hc;exact (hh i v c0 hv hc0).P6 hu
 cases h with
 | agg vs cs h1 h2 h3=>exact .agg _ _ (by simpa using h1) (pick _ _ h2) h3
 | tuple vs cs h1 h2=>exact .tuple _ _ (by simpa using h1) (pick _ _ h2)
 | func fn fs cs f c h1 h2 h3 h4=>exact RdV.P6 hu (.func fn fs cs f c h1 h2 h3 h4)
 | any v=>exact .any _
 | undef=>exact .any _
 | d v x h=>exact .d _ _ h
 | bZ=>exact .bZ
 | emp a=>exact .emp a
 | ptr id off b h1 h2=>exact RdV.P6 hu (.ptr id off b h1 h2)
 | sl id sz off len n cap a0 a h1 h2 h3 h4 h5=>exact RdV.P6 hu (.sl id sz off len n cap a0 a h1 h2 h3 h4 h5)
 | ael id sz i off b o n cap h1 h2=>exact RdV.P6 hu (.ael id sz i off b o n cap h1 h2)
 | map id r h1 h2=>exact RdV.P6 hu (.map id r h1 h2)
 | rsl id len cap a h1 h2=>exact .any _
 | jP id i b o n cap h1 h2=>exact .any _
theorem Own.ren {β β':Nat→Value} {u u' ok:Nat→Prop} {w:World} {m:List (Nat×Nat)} (hu:∀ i,u i→u' (bg m i)∧β' (bg m i)=β i) {k:Key} {r:Res} (hp:ql r=true) (hk:u k.1) (h:Own β u ok w k r):Own β' u' ok w (kQ m k) (P5 m r):=by
 have e:=(hu _ hk).2;cases r with
 | cell x=>
   obtain ⟨b,c,T,v,h1,h2,h3,h4,h5⟩:=h;exact ⟨b,c,T,v,e.trans h1,h2,h3,h4,h5.P6 hu⟩
 | arr sz xs=>exact ⟨h.1,by show bQ ok w (β' (bg m k.1)) sz xs;rw [e];exact h.2⟩
 | map es=>exact ⟨h.1,by show Ru ok w (β' (bg m k.1)) es;rw [e];exact h.2⟩
 | rows sz rs out=>cases hp
def acn (m:List (Nat×Nat)) (h:Key→Option Res):List (Key×Res)→Prop→Prop
 | [],p=>p
 | (k,r)::pre,p=>h (kQ m k)=some (P5 m r)∧acn m h pre p
theorem Jb {m:List (Nat×Nat)} {h:Key→Option Res}:∀ {pre:List (Key×Res)} {p:Prop},acn m h pre p→(∀ k r,(k,r)∈pre→h (kQ m k)=some (P5 m r))∧p
 | [],p,hp=>⟨(fun k r hk=>by cases hk),hp⟩
 | (k0,r0)::pre,p,hp=>by
   obtain ⟨h1,h2⟩:=hp;obtain ⟨h3,h4⟩:=Jb h2
   exact ⟨fun k r hk=>by
    rcases List.mem_cons.1 hk with hk | hk
    ·cases hk;exact h1
    ·exact h3 k r hk,h4⟩
def inN (i:Nat):List Nat→Bool
 | []=>false
 | x::xs=>match Nat.beq i x with | true=>true | false=>inN i xs
theorem nO {i:Nat}:∀ {l:List Nat},inN i l=true↔i∈l
 | []=>by simp [inN]
 | x::xs=>by
   unfold inN;cases hb:Nat.beq i x with
   | true=>simp [Nat.eq_of_beq_eq_true hb]
   | false=>
     have hne:i≠x:=fun e=>by rw [e,Nat.beq_refl] at hb;cases hb
     simp [hne,nO (l:=xs)]
def KN (m:List (Nat×Nat)) (U news nw:List Nat):Bool:=
 (U++news).all (fun i=>m.any fun e=>Nat.beq e.1 i)&&news.all (fun i=>inN (bg m i) nw&&!inN i U)&&nw.all (fun j=>news.any fun i=>Nat.beq (bg m i) j) &&
 U.all (fun i=>!inN (bg m i) nw)&&(U++news).all (fun i=>(U++news).all fun j=>Nat.beq i j||!Nat.beq (bg m i) (bg m j))
def yK (m:List (Nat×Nat)):List (Key×Res)→List (Key×Option Res)
 | []=>[]
 | (k,r)::post=>(kQ m k,some (P5 m r))::yK m post
def HY (m:List (Nat×Nat)):List (Key×Res)→List (Key×Option Res)
 | []=>[]
 | (k,_)::pre=>(kQ m k,none)::HY m pre
theorem uF {m:List (Nat×Nat)} {k:Key} {r:Option Res}:∀ {post:List (Key×Res)},(k,r)∈yK m post↔∃ k0 r0,(k0,r0)∈post∧k=kQ m k0∧r=some (P5 m r0)
 | []=>by simp [yK]
 | (k1,r1)::post=>by
   simp only [yK,List.mem_cons,uF (post:=post),Prod.mk.injEq];constructor
   ·rintro (⟨h1,h2⟩ | ⟨k0,r0,h1,h2⟩)
    ·exact ⟨k1,r1,.inl ⟨rfl,rfl⟩,h1,h2⟩
    ·exact ⟨k0,r0,.inr h1,h2⟩
   ·rintro ⟨k0,r0,⟨rfl,rfl⟩ | h1,h2⟩
    ·exact .inl h2
    ·exact .inr ⟨k0,r0,h1,h2⟩
theorem o9 {m:List (Nat×Nat)} {k:Key} {r:Option Res}:∀ {pre:List (Key×Res)},(k,r)∈HY m pre↔∃ k0 r0,(k0,r0)∈pre∧k=kQ m k0∧r=none
 | []=>by simp [HY]
 | (k1,r1)::pre=>by
   simp only [HY,List.mem_cons,o9 (pre:=pre),Prod.mk.injEq];constructor
   ·rintro (⟨h1,h2⟩ | ⟨k0,r0,h1,h2⟩)
    ·exact ⟨k1,r1,.inl ⟨rfl,rfl⟩,h1,h2⟩
    ·exact ⟨k0,r0,.inr h1,h2⟩
   ·rintro ⟨k0,r0,⟨rfl,rfl⟩ | h1,h2⟩
    ·exact .inl h2
    ·exact .inr ⟨k0,r0,h1,h2⟩
def La (U:List Nat):V→Bool
 | .d _ | .bZ | .emp | .any=>true
 | .ptr id _=>inN id U
 | .sl id _ _ _=>inN id U
 | .ael id _ _ _=>inN id U
 | .map id=>inN id U
 | _=>false
def sN (U:List Nat):V→Bool
 | .func _ [] cs=>cs.all (La U)
 | v=>La U v
def aaz (U:List Nat):V→Bool
 | .agg cs=>cs.all (sN U)
 | .tuple cs=>cs.all (sN U)
 | v=>sN U v
def BF (U:List Nat):List (Key×Res)→Bool
 | []=>true
 | (k,.cell v)::pre=>inN k.1 U&&sN U v&&BF U pre
 | (_,.rows _ _ _)::_=>false
 | (k,_)::pre=>inN k.1 U&&BF U pre
theorem RdV.VJ {β:Nat→Value} {u ok:Nat→Prop} {w:World} {m:List (Nat×Nat)} {U:List Nat} {v:Value} {x:V} (hx:La U x=true) (h:RdV β u ok w v (IJ m x)):RdV (fun i=>β (bg m i)) (fun i=>i∈U) ok w v x:=by
 cases x<;>(try simp only [La,nO] at hx)<;>(try simp only [IJ] at h)
 case d x=>exact .d _ _ h.dX
 case bZ=>cases h;exact .bZ
 case emp=>cases h;exact .emp _
 case ptr id off=>cases h with | ptr _ _ b h1 h2=>exact .ptr _ _ b hx h2
 case sl id sz off len=>cases h with | sl _ _ _ _ n cap a0 a h1 h2 h3 h4 h5=>exact .sl _ _ _ _ n cap a0 a hx h2 h3 h4 h5
 case ael id sz i off=>cases h with | ael _ _ _ _ b o n cap h1 h2=>exact .ael _ _ _ _ b o n cap hx h2
 case map id=>cases h with | map _ r h1 h2=>exact .map _ r hx h2
 case any=>exact .any _
 all_goals cases hx
theorem RdV.PK {β:Nat→Value} {u ok:Nat→Prop} {w:World} {m:List (Nat×Nat)} {U:List Nat} {v:Value} {x:V} (hx:sN U x=true) (h:RdV β u ok w v (yD m x)):RdV (fun i=>β (bg m i)) (fun i=>i∈U) ok w v x:=by
 cases x
 case func fn f c=>
  match f,hx,h with
  | [],hx,h=>cases h with | func _ fs cs _ _ h1 h2 _ h4=>exact .func _ _ _ _ _ h1 (by rw [h2,List.length_map]) (fun i v x _ hx=>by simp at hx) (fun i v x hv hc=>
    RdV.VJ (List.all_eq_true.1 hx x (List.mem_of_getElem? hc)) (h4 i v (IJ m x) hv (by simp [hc])))
  | _::_,hx,_=>cases hx
 all_goals exact RdV.VJ hx h
theorem RdV.VK {β:Nat→Value} {u ok:Nat→Prop} {w:World} {m:List (Nat×Nat)} {U:List Nat} {v:Value} {x:V} (hx:aaz U x=true) (h:RdV β u ok w v (Nh m x)):RdV (fun i=>β (bg m i)) (fun i=>i∈U) ok w v x:=by
 have pick:∀ (vs:Array Value) (cs:List V),cs.all (sN U)=true→(∀ (i:Nat) v c,vs[i]?=some v→(cs.map (yD m))[i]?=some c→RdV β u ok w v c)→∀ (i:Nat) v c,vs[i]?=some v→cs[i]?=some c→RdV (fun i=>β (bg m i)) (fun i=>i∈U) ok w v c:=fun vs cs hcs hh i v c hv hc=>
  RdV.PK (List.all_eq_true.1 hcs c (List.mem_of_getElem? hc)) (hh i v (yD m c) hv (by simp [hc]))
 cases x
 case agg cs=>
  simp only [Nh] at h;cases h with
  | agg vs _ h1 h2 h3=>exact .agg _ _ (by simpa using h1) (pick _ _ hx h2) h3
 case tuple cs=>
  simp only [Nh] at h;cases h with
  | tuple vs _ h1 h2=>exact .tuple _ _ (by simpa using h1) (pick _ _ hx h2)
 all_goals exact RdV.PK hx h
theorem uz {U:List Nat}:∀ {pre:List (Key×Res)},BF U pre=true→∀ k r,(k,r)∈pre→k.1∈U∧(∀ v,r = .cell v→sN U v=true)∧ql r=true
 | [],_,k,r,hm=>by cases hm
 | (k0,.cell v0)::pre,h,k,r,hm=>by
   simp only [BF,Bool.and_eq_true,nO] at h;rcases List.mem_cons.1 hm with hm | hm
   ·cases hm;exact ⟨h.1.1,fun v e=>(by cases e;exact h.1.2),rfl⟩
   ·exact uz h.2 k r hm
 | (k0,.arr sz xs)::pre,h,k,r,hm=>by
   simp only [BF,Bool.and_eq_true,nO] at h;rcases List.mem_cons.1 hm with hm | hm
   ·cases hm;exact ⟨h.1,fun v e=>(by cases e),rfl⟩
   ·exact uz h.2 k r hm
 | (k0,.map es)::pre,h,k,r,hm=>by
   simp only [BF,Bool.and_eq_true,nO] at h;rcases List.mem_cons.1 hm with hm | hm
   ·cases hm;exact ⟨h.1,fun v e=>(by cases e),rfl⟩
   ·exact uz h.2 k r hm
 | (k0,.rows sz rs out)::pre,h,k,r,hm=>by simp [BF] at h
theorem Own.VK {β:Nat→Value} {u ok:Nat→Prop} {w:World} {m:List (Nat×Nat)} {U:List Nat} {k:Key} {r:Res} (hr:∀ v,r = .cell v→sN U v=true) (hp:ql r=true) (h:Own β u ok w (kQ m k) (P5 m r)):Own (fun i=>β (bg m i)) (fun i=>i∈U) ok w k r:=by
 cases r with
 | cell x=>
   obtain ⟨b,c,T,v,h1,h2,h3,h4,h5⟩:=h;exact ⟨b,c,T,v,h1,h2,h3,h4,RdV.PK (hr x rfl) h5⟩
 | arr sz xs=>exact h
 | map es=>exact h
 | rows sz rs out=>cases hp
def LH (P:Program) (vals:List V) (h:Key→Option Res) (K:KK):Prop:=
 match vals with
 | .func (.func f) first captured::vs=>
   ∃ U as pre news xs post,jg P f U as pre news xs post∧∃ m nw,first++vs++captured=as.map (Nh m)∧(as.all (aaz U)&&BF U pre&&U.all (fun i=>pre.any fun e=>Nat.beq e.1.1 i)&&KN m U news nw)=true ∧
     acn m h pre (K (Nh m (resV xs)) (yK m post++HY m pre) ((HY m pre).map (·.1)) nw)
 | _=>False
def wK (β β':Nat→Value) (m:List (Nat×Nat)) (news nw:List Nat) (j:Nat):Value:=
 if j∈nw then match news.find? (fun i=>Nat.beq (bg m i) j) with | some i=>β' i | none=>β j else β j
theorem KL {m:List (Nat×Nat)} {U news nw:List Nat} (h:KN m U news nw=true) :
  (∀ i∈news,bg m i∈nw∧i∉U)∧(∀ j∈nw,∃ i∈news,bg m i=j)∧(∀ i∈U,bg m i∉nw)∧(∀ i j,i∈U∨i∈news→j∈U∨j∈news→bg m i=bg m j→i=j):=by
 simp only [KN,Bool.and_eq_true,List.all_eq_true] at h;obtain ⟨⟨⟨⟨_,h1⟩,h2⟩,h3⟩,h4⟩:=h;refine ⟨fun i hi=>?_,fun j hj=>?_,fun i hi=>?_,fun i j hi hj e=>?_⟩
 ·have:=h1 i hi;simp only [nO,Bool.not_eq_true'] at this;exact ⟨this.1,fun hu=>by rw [nO.2 hu] at this;cases this.2⟩
 ·obtain ⟨i,hi,he⟩:=List.any_eq_true.1 (h2 j hj);exact ⟨i,hi,Nat.eq_of_beq_eq_true he⟩
 ·have:=h3 i hi;intro hc;rw [nO.2 hc] at this;cases this
 ·have:=h4 i (List.mem_append.2 hi) j (List.mem_append.2 hj);simp only [Bool.or_eq_true,Bool.not_eq_true'] at this;rcases this with h' | h'
  ·exact Nat.eq_of_beq_eq_true h'
  ·rw [e,Nat.beq_refl] at h';cases h'
theorem Ig {P:Program} {o:Oper} {fv:Operand} {as':Array Operand} {tys:Array TypeId} (ho:o.op = .call { callee := .value fv,args:=as',argTypes:=tys }) {vals:List V} {h:Key→Option Res} {K:KK} (hK:LH P vals h K) :
  ∃ x δ rd nw,K x δ rd nw∧aG P o vals h x δ rd nw:=by
 unfold LH at hK;split at hK
 ·rename_i f first captured vs
  obtain ⟨U,as,pre,news,xs,post,hp,m,nw,hvals,hchk,hK⟩:=hK;obtain ⟨hlent,hK⟩:=Jb hK;simp only [Bool.and_eq_true] at hchk;obtain ⟨⟨⟨hids,hpre⟩,hUpre⟩,hnames⟩:=hchk;obtain ⟨n1,n2,n3,n4⟩:=KL hnames;have hpm:=uz hpre;have hU:∀ i∈U,∃ k r,(k,r)∈pre∧k.1=i:=fun i hi=>by
   obtain ⟨e,he,hb⟩:=List.any_eq_true.1 (List.all_eq_true.1 hUpre i hi);exact ⟨e.1,e.2,he,Nat.eq_of_beq_eq_true hb⟩
  refine ⟨_,_,_,_,hK,fun C s a w hrel g1 g2 g3 g4 g5 K' Q hK'=>?_⟩;obtain ⟨β,ok,hr⟩:=hrel;simp only [ho,Op.operands,Call.operands] at g1 g5;have g1':s.ev fv = .func (.func f) first captured∧as'.toList.map s.ev=vs:=by simpa using g1
  have hf:=hr.eval fv (g5 fv (by simp));rw [g1'.1] at hf;generalize hvf:a.eval fv=vf at hf;cases hf with
  | func _ fs cs _ _ q1 q2 q3 q4=>
    obtain ⟨fn,e1,e2,e3⟩:=hp.there;have hheld:∀ k r,(k,r)∈pre→s.hp (kQ m k)=some (P5 m r):=fun k r hk=>by
     rw [g2 (kQ m k) (List.mem_map.2 ⟨(kQ m k,none),o9.2 ⟨k,r,hk,rfl,rfl⟩,rfl⟩)];exact hlent k r hk
    let β0:Nat→Value:=fun i=>β (bg m i)
    have hargs:∀ (i:Nat) v x,((fs++as'.map a.eval)++cs)[i]?=some v→as[i]?=some x→RdV β0 (fun i=>i∈U) ok w v x:=fun i v x hv hx=>by
     have hvi:(first++vs++captured)[i]?=some (Nh m x):=(by rw [hvals];simp [hx]);refine RdV.VK (List.all_eq_true.1 hids x (List.mem_of_getElem? hx)) (u:=s.used) ?_;generalize Nh m x=y at hvi;rw [← Array.getElem?_toList,Array.toList_append,Array.toList_append,Array.toList_map] at hv;rcases Nat.lt_or_ge i first.length with l1 | l1
     ·rw [List.append_assoc,List.getElem?_append_left l1] at hvi;rw [List.append_assoc,List.getElem?_append_left (by simpa [q1] using l1)] at hv;exact q3 i v y (by simpa using hv) hvi
     ·rw [List.append_assoc,List.getElem?_append_right l1] at hvi;rw [List.append_assoc,List.getElem?_append_right (by simpa [q1] using l1)] at hv;have el:fs.toList.length=first.length:=by simpa using q1
      rw [el] at hv;have ev:vs.length=as'.toList.length:=(by rw [← g1'.2];simp);rcases Nat.lt_or_ge (i-first.length) vs.length with l2 | l2
      ·rw [List.getElem?_append_left l2] at hvi;rw [List.getElem?_append_left (by simpa [ev] using l2)] at hv;rw [← g1'.2] at hvi;simp only [List.getElem?_map,Option.map_eq_some_iff] at hv hvi;obtain ⟨z,hz,rfl⟩:=hv;obtain ⟨z',hz',rfl⟩:=hvi;rw [hz] at hz';cases hz';exact hr.eval z (g5 z (by have:=List.mem_of_getElem? hz;simp;exact .inr (by simpa using this)))
      ·rw [List.getElem?_append_right l2] at hvi;rw [List.getElem?_append_right (by simpa [ev] using l2)] at hv;rw [List.length_map,← ev] at hv;exact q4 _ v y (by simpa using hv) hvi
    have hsize:((fs++as'.map a.eval)++cs).size=as.length:=by
     have:(first++vs++captured).length=as.length:=(by rw [hvals];simp);rw [← this,← g1'.2];simp [q1,q2]
    have hc:=hp.calls β0 ok w ((fs++as'.map a.eval)++cs) hr.glob hr.okb hsize hargs
     (fun k r hk=>⟨(hpm k r hk).1,Own.VK (hpm k r hk).2.1 (hpm k r hk).2.2 (hr.heap _ _ (hheld k r hk)).2⟩)
     (fun k r b hk hb=>⟨(hr.sep _ _ b (hheld k r hk) (.inl hb)).1,(hr.sep _ _ b (hheld k r hk) (.inl hb)).2.1⟩)
     (fun k k' r r' b hk hk' hb hb'=>n4 _ _ (.inl (hpm k r hk).1) (.inl (hpm k' r' hk').1) (hr.inj _ _ _ _ b (hheld k r hk) (hheld k' r' hk') (.inl hb) (.inl hb')))
    unfold Oper.wp;have hrun:(execOp a.eval o).run P w = .ok (.enter f ((fs++as'.map a.eval)++cs)) w:=by
     have e3':fn.body≠none:=(by intro e;rw [e] at e3;cases e3);have e2':¬ fn.name = "runtime.NumGoroutine" := by simpa using e2
     simp [execOp,ho,resolve,hvf,Deferred.ofValue,invoke,callFunc,e1,e2',e3']
    rw [hrun];refine hc.mono fun e w' ⟨v,β1,ok',he,hk1,hv1,hown1,hsep1,hinj1,hokb1,hokm,hokn1,hfr1⟩=>?_
    subst he;refine hK' _ _ ⟨wK β β1 m news nw,ok',?_⟩;have used_nw:∀ j,s.used j→j∉nw:=fun j hj hn=>g3 j hn hj
    have bold:∀ j,s.used j→wK β β1 m news nw j=β j:=fun j hj=>by unfold wK;rw [if_neg (used_nw j hj)]
    have bnew:∀ i,i∈news→wK β β1 m news nw (bg m i)=β1 i:=fun i hi=>by
     unfold wK;rw [if_pos (n1 i hi).1];cases hfd:news.find? (fun i'=>Nat.beq (bg m i') (bg m i)) with
     | none=>
       have:=List.find?_eq_none.1 hfd i hi;simp [Nat.beq_refl] at this
     | some i'=>
       have h1:=List.find?_some hfd;have h2:=List.mem_of_find?_eq_some hfd;have:=n4 i' i (.inr h2) (.inr hi) (Nat.eq_of_beq_eq_true h1);simp only [this]
    have uU:∀ i,i∈U→s.used (bg m i):=fun i hi=>by
     obtain ⟨k,r,hk,e⟩:=hU i hi;have:=(hr.heap _ _ (hheld k r hk)).1;rw [← e];exact this
    have bU:∀ i,i∈U→wK β β1 m news nw (bg m i)=β1 i:=fun i hi=>by
     unfold wK;rw [if_neg (n3 i hi),hk1 i hi]
    have hren:∀ i,(i∈U∨i∈news)→(s.used (bg m i)∨bg m i∈nw)∧wK β β1 m news nw (bg m i)=β1 i:=fun i hi=>
     ⟨hi.elim (fun h' => .inl (uU i h')) (fun h' => .inr (n1 i h').1),hi.elim (bU i) (bnew i)⟩
    have whole:∀ b,(∀ o,oL β0 pre b o)→∃ k r,(k,r)∈pre∧aF (β0 k.1)=some b∧∀ v,r ≠ .cell v:=fun b hb=>by
     have big:∀ l:List (Key×Res),∃ n:Nat,∀ k r,(k,r)∈l→k.2<n:=by
      intro l
      induction l with
      | nil=>exact ⟨0,fun k r hk=>by cases hk⟩
      | cons x l ih=>
        obtain ⟨n,hn⟩:=ih;refine ⟨n+x.1.2+1,fun k r hk=>?_⟩;rcases List.mem_cons.1 hk with hk | hk
        ·cases hk;simp;omega
        ·have:=hn k r hk;omega
     obtain ⟨n,hn⟩:=big pre;obtain ⟨k,r,hk,hbk,ho⟩:=hb n;refine ⟨k,r,hk,hbk,fun v e=>?_⟩;subst e;have:=hn k _ hk;simp only at ho;omega
    have alone:∀ k r b,s.hp k=some r→Blk β w k r b→∀ k1 r1,(k1,r1)∈pre→aF (β0 k1.1)=some b→(∀ v,r1 ≠ .cell v)→k=kQ m k1:=fun k r b hkr hb k1 r1 hk1m hb1 hnc=>by
     have hid:=hr.inj k (kQ m k1) r _ b hkr (hheld k1 r1 hk1m) hb (.inl hb1);have hpl:=(hpm k1 r1 hk1m).2.2;have ho1:=(hr.heap _ _ (hheld k1 r1 hk1m)).2;have ho:=(hr.heap _ _ hkr).2;have e0:∀ sz xs,r1 = .arr sz xs→k1.2=0∧∃ a n c,β (bg m k1.1) = .slice a n c:=fun sz xs e=>by
      subst e;obtain ⟨h1,a',cap,h2,_⟩:=ho1;exact ⟨h1,a',_,cap,h2⟩
     have e1:∀ es,r1 = .map es→k1.2=0∧∃ q,β (bg m k1.1) = .map (some q):=fun es e=>by
      subst e;obtain ⟨h1,q,en,cl,h2,_⟩:=ho1;exact ⟨h1,q,h2⟩
     obtain ⟨x1,x2⟩:=k;simp only [kQ] at hid;subst hid;have hk2:x2=0:=by
      cases r with
      | arr sz xs=>exact ho.1
      | map es=>exact ho.1
      | rows sz rs out=>exact ho.1
      | cell v=>
        exfalso;obtain ⟨b2,c2,T2,v2,g1,_⟩:=ho;simp only at g1;cases r1 with
        | cell v1=>exact hnc v1 rfl
        | arr sz xs=>obtain ⟨_,a',n',c',h2⟩:=e0 sz xs rfl;rw [h2] at g1;cases g1
        | map es=>obtain ⟨_,q,h2⟩:=e1 es rfl;rw [h2] at g1;cases g1
        | rows sz rs out=>cases hpl
     have hk12:k1.2=0:=by
      cases r1 with
      | cell v1=>exact absurd rfl (hnc v1)
      | arr sz xs=>exact (e0 sz xs rfl).1
      | map es=>exact (e1 es rfl).1
      | rows sz rs out=>cases hpl
     simp [kQ,hk2,hk12]
    have notδ:∀ k,(∀ r',(k,r')∉yK m post++HY m pre)→∀ k1 r1,(k1,r1)∈pre→k≠kQ m k1:=fun k hno k1 r1 hk1m e=>
     hno none (List.mem_append_right _ (o9.2 ⟨k1,r1,hk1m,e,rfl⟩))
    have wrC:∀ b o,b<C.w0.heap.size→oL β0 pre b o→C.wr b o:=fun b o hb ⟨k1,r1,hk1m,hb1,ho⟩=>by
     have:=(hr.sep _ _ b (hheld k1 r1 hk1m) (.inl hb1)).2.2 hb;cases r1 with
     | cell v=>
       simp only at ho;subst ho;exact this.2
     | arr sz xs=>exact this o
     | map es=>exact this o
     | rows sz rs out=>exact this o
    have hkeep:Keeps ok w w':=fun b hb=>hfr1.blk b (hr.okb b hb) (fun o ⟨k1,r1,hk1m,hb1,_⟩=>(hr.sep _ _ b (hheld k1 r1 hk1m) (.inl hb1)).1 hb)
    have notok:∀ k r b,s.hp k=some r→Blk β w k r b→(∀ k1 r1,(k1,r1)∈pre→(∀ v,r1 ≠ .cell v)→k≠kQ m k1)→¬ ok' b:=fun k r b hkr hb hne hc=>by
     have hs:=hr.sep k r b hkr hb;rcases hokn1 b hc with h' | h' | h'
     ·exact hs.1 h'
     ·omega
     ·obtain ⟨k1,r1,hk1m,hb1,hnc⟩:=whole b h';exact hne k1 r1 hk1m hnc (alone k r b hkr hb k1 r1 hk1m hb1 hnc)
    have dich:∀ k r,s.hp k=some r→(∀ r',(k,r')∉yK m post++HY m pre)→∀ b,Blk β w k r b→(w'.heap[b]?=w.heap[b]?∨((∃ x,r = .cell x)∧Own (wK β β1 m news nw) (fun i=>s.used i∨i∈nw) ok' w' k r)):=fun k r hkr hno b hb=>by
     have hs:=hr.sep k r b hkr hb;by_cases hin:∃ k1 r1,(k1,r1)∈pre∧aF (β0 k1.1)=some b
     ·right;obtain ⟨k1,r1,hk1m,hb1⟩:=hin;have hcell:∀ k1 r1,(k1,r1)∈pre→aF (β0 k1.1)=some b→∃ v,r1 = .cell v:=fun k1 r1 hk1m hb1=>by
       apply Classical.byContradiction;intro hnc;exact notδ k hno k1 r1 hk1m (alone k r b hkr hb k1 r1 hk1m hb1 (fun v e=>hnc ⟨v,e⟩))
      obtain ⟨v1,rfl⟩:=hcell k1 r1 hk1m hb1;have hid:=hr.inj k (kQ m k1) r _ b hkr (hheld _ _ hk1m) hb (.inl hb1);obtain ⟨b1,c1,T1,u1,f1,f2,_⟩:=(hr.heap _ _ (hheld _ _ hk1m)).2;obtain ⟨_,ho⟩:=hr.heap _ _ hkr;have fβ:β k.1 = .pointer (some ⟨b1,0,none⟩):=(by rw [hid];exact f1);cases r with
      | arr sz ys=>obtain ⟨_,a',cap,h1,_⟩:=ho;rw [fβ] at h1;cases h1
      | map es=>obtain ⟨_,q,en,cl,h1,_⟩:=ho;rw [fβ] at h1;cases h1
      | rows sz rs out=>obtain ⟨_,⟨a',cap,h1,_⟩,_⟩:=ho;rw [fβ] at h1;cases h1
      | cell x=>
        refine ⟨⟨x,rfl⟩,?_⟩;have eb:b1=b:=(by have hb:=hb.cell;rw [fβ] at hb;simpa [aF] using hb);subst eb;obtain ⟨b2,c2,T2,v2,h1,h2,h3,h4,h5⟩:=ho;rw [fβ] at h1;simp at h1;subst h1;obtain ⟨c',k1',k2',k3'⟩:=hfr1.cel b1 c2 T2 _ h2;refine ⟨b1,c',T2,v2,(bold _ (hr.heap _ _ hkr).1).trans fβ,k1',?_,h4,h5.mono bold (fun i hi => .inl hi) hkeep hokm⟩;rw [k3' k.2 (fun ⟨k3,r3,hk3m,hb3,ho3⟩=>?_)]
        ·exact h3
        ·obtain ⟨v3,rfl⟩:=hcell k3 r3 hk3m hb3;have hid3:=hr.inj k (kQ m k3) _ _ b1 hkr (hheld _ _ hk3m) hb (.inl hb3);simp only at ho3;refine notδ k hno k3 _ hk3m ?_;obtain ⟨x1,x2⟩:=k;simp only [kQ] at hid3 ⊢;simp only at ho3;rw [hid3,ho3]
     ·left;exact hfr1.blk b hs.2.1 (fun o ⟨k1,r1,hk1m,hb1,_⟩=>hin ⟨k1,r1,hk1m,hb1⟩)
    have back:∀ k r,s.hp k=some r→(∀ r',(k,r')∉yK m post++HY m pre)→∀ b,Blk (wK β β1 m news nw) w' k r b→Blk β w k r b:=fun k r hkr hno b hb=>by
     have hbk:=bold k.1 (hr.heap k r hkr).1;by_cases hc:∃ x,r = .cell x
     ·obtain ⟨x,rfl⟩:=hc;have hb:=hb.cell;rw [hbk] at hb;exact .inl hb
     ·exact Blk.mono hbk (fun b hb'=>(dich k r hkr hno b hb').elim id (fun e=>absurd e.1 hc)) hb
    refine hr.step g4 bold hokm hkeep ?_ (fun k r hkr hno b hb=>?_) (fun k r hmm=>?_) (fun k k' r r' b hmm hkr hb hb'=>?_) hokb1 (fun b hb=>?_) ?_
    ·exact hv1.ren hren
    ·have hs:=hr.sep k r b hkr hb;exact ⟨⟨notok k r b hkr hb (fun k1 r1 hk1m _=>notδ k hno k1 r1 hk1m),Nat.lt_of_lt_of_le hs.2.1 hfr1.size⟩,dich k r hkr hno b hb⟩
    ·rcases List.mem_append.1 hmm with hmm | hmm
     ·obtain ⟨k0,r0,hk0m,rfl,e0⟩:=uF.1 hmm;cases e0;obtain ⟨i1,i2⟩:=hown1 k0 r0 hk0m;refine ⟨(hren k0.1 i1).1,i2.ren hren (hp.plain k0 r0 hk0m) i1,fun b hb=>?_⟩;have hb:=hb.plain (by have:=hp.plain k0 r0 hk0m;cases r0<;>first | rfl | exact this);have hb':aF (β1 k0.1)=some b:=(by rw [← (hren k0.1 i1).2];exact hb);obtain ⟨j1,j2,j3⟩:=hsep1 k0 r0 b hk0m hb';refine ⟨j1,j2,fun hlt=>?_⟩;have hltw:b<w.heap.size:=Nat.lt_of_lt_of_le hlt hr.frame.size;cases r0 with
      | cell v=>
        obtain ⟨l1,l2⟩:=j3 hltw;refine ⟨?_,wrC b _ hlt l2⟩;obtain ⟨k1,r1,hk1m,hb1,_⟩:=l2;obtain ⟨k2,r2,hk2m,e2⟩:=hU k0.1 l1;have hb2:aF (β0 k2.1)=some b:=by
         have h1:=hk1 k0.1 l1;rw [h1] at hb';rw [e2];exact hb'
        have hidk:=n4 _ _ (.inl (hpm k1 r1 hk1m).1) (.inl (hpm k2 r2 hk2m).1) (hr.inj _ _ _ _ b (hheld k1 r1 hk1m) (hheld k2 r2 hk2m) (.inl hb1) (.inl hb2));have hs2:=(hr.sep _ _ b (hheld k2 r2 hk2m) (.inl hb2)).2.2 hlt;obtain ⟨_,b5,c5,T5,v5,f5,_⟩:=(⟨i1,i2⟩:_∧Own β1 _ ok' w' k0 (.cell v));have ho2:=(hr.heap _ _ (hheld k2 r2 hk2m)).2;have fβ2:β (bg m k2.1) = .pointer (some ⟨b5,0,none⟩):=by
         have h1:=hk1 k0.1 l1;rw [e2,← f5,h1]
        cases r2 with
        | cell v2=>
          show bg m k0.1∈C.u0;rw [← e2];exact hs2.1
        | arr sz ys=>obtain ⟨_,a',cap,h1,_⟩:=ho2;simp only [kQ] at h1;rw [fβ2] at h1;cases h1
        | map es=>obtain ⟨_,q,en,cl,h1,_⟩:=ho2;simp only [kQ] at h1;rw [fβ2] at h1;cases h1
        | rows sz rs out=>obtain ⟨_,⟨a',cap,h1,_⟩,_⟩:=ho2;simp only [kQ] at h1;rw [fβ2] at h1;cases h1
      | arr sz xs=>exact fun o=>wrC b o hlt (j3 hltw o)
      | map es=>exact fun o=>wrC b o hlt (j3 hltw o)
      | rows sz rs out=>exact fun o=>wrC b o hlt (j3 hltw o)
     ·obtain ⟨k0,r0,_,_,e0⟩:=o9.1 hmm;cases e0
    ·rcases List.mem_append.1 hmm with hmm | hmm
     case inr=>
      obtain ⟨k0,r0,_,_,e0⟩:=o9.1 hmm;cases e0
     case inl=>
      obtain ⟨k0,r0,hk0m,rfl,e0⟩:=uF.1 hmm;cases e0;obtain ⟨i1,i2⟩:=hown1 k0 r0 hk0m;have hb:=hb.plain (by have:=hp.plain k0 r0 hk0m;cases r0<;>first | rfl | exact this);have hb0:aF (β1 k0.1)=some b:=(by rw [← (hren k0.1 i1).2];exact hb);rcases dN s.hp (yK m post++HY m pre) k' with ⟨e',hno⟩ | ⟨rr,hm',e'⟩
      ·have hkr':s.hp k'=some r':=e'.symm.trans hkr;have hus:=(hr.heap k' r' hkr').1;have hb':=back k' r' hkr' hno b hb';have hs:=hr.sep k' r' b hkr' hb';obtain ⟨_,_,j3⟩:=hsep1 k0 r0 b hk0m hb0;have j3':=j3 hs.2.1;cases r0 with
       | cell v=>
         obtain ⟨l1,l2⟩:=j3';obtain ⟨k2,r2,hk2m,e2⟩:=hU k0.1 l1;have hb2:aF (β0 k2.1)=some b:=by
          have h1:=hk1 k0.1 l1;rw [h1] at hb0;rw [e2];exact hb0
         have:=hr.inj k' (kQ m k2) r' _ b hkr' (hheld k2 r2 hk2m) hb' (.inl hb2);show bg m k0.1=k'.1;rw [this,← e2];rfl
       | arr sz xs=>
         exfalso;obtain ⟨k1,r1,hk1m,hb1,hnc⟩:=whole b j3';exact notδ k' hno k1 r1 hk1m (alone k' r' b hkr' hb' k1 r1 hk1m hb1 hnc)
       | map es=>
         exfalso;obtain ⟨k1,r1,hk1m,hb1,hnc⟩:=whole b j3';exact notδ k' hno k1 r1 hk1m (alone k' r' b hkr' hb' k1 r1 hk1m hb1 hnc)
       | rows sz rs out=>
         exfalso;obtain ⟨k1,r1,hk1m,hb1,hnc⟩:=whole b j3';exact notδ k' hno k1 r1 hk1m (alone k' r' b hkr' hb' k1 r1 hk1m hb1 hnc)
      ·have er:rr=some r':=e'.symm.trans hkr;subst er;rcases List.mem_append.1 hm' with hm' | hm'
       ·obtain ⟨k2,r2,hk2m,rfl,e2⟩:=uF.1 hm';cases e2;have i2':=(hown1 k2 r2 hk2m).1;have hb':=hb'.plain (by have:=hp.plain k2 r2 hk2m;cases r2<;>first | rfl | exact this);have hb2:aF (β1 k2.1)=some b:=(by rw [← (hren k2.1 i2').2];exact hb');show bg m k0.1=bg m k2.1;rw [hinj1 k0 k2 r0 r2 b hk0m hk2m hb0 hb2]
       ·obtain ⟨k2,r2,_,_,e2⟩:=o9.1 hm';cases e2
    ·rcases hokn1 b hb with h' | h' | h'
     ·exact .inl h'
     ·exact .inr (.inl (Nat.le_trans hr.frame.size h'))
     ·rcases Nat.lt_or_ge b C.w0.heap.size with hlt | hge
      ·exact .inr (.inr (fun o=>wrC b o hlt (h' o)))
      ·exact .inr (.inl hge)
    ·refine ⟨hfr1.os.trans hr.frame.os,hfr1.tape.trans hr.frame.tape,hfr1.output.trans hr.frame.output,Nat.le_trans hr.frame.size hfr1.size,fun b hb hn=>?_,fun b c T fz hbc=>?_⟩
     ·have hbw:b<w.heap.size:=Nat.lt_of_lt_of_le hb hr.frame.size;rw [hfr1.blk b hbw (fun o ho=>hn o (wrC b o hb ho))];exact hr.frame.blk b hb hn
     ·have hb0:b<C.w0.heap.size:=(Array.getElem?_eq_some_iff.1 hbc).1;obtain ⟨c1,j1,j2,j3⟩:=hr.frame.cel b c T fz hbc;obtain ⟨c2,j4,j5,j6⟩:=hfr1.cel b c1 T fz j1;exact ⟨c2,j4,j5.trans j2,fun o ho=>(j6 o (fun ho'=>ho (wrC b o hb0 ho'))).trans (j3 o ho)⟩
 ·exact hK.elim
section
variable {P:Program} {T:Nat→TE}
def F5 (fs:List (Nat×Nat×Bool)) (f:Nat) (K:Nat→Nat→Bool→Prop):Prop:=
 match fs,f with
 | (fo,fsz,fb)::_,0=>K fo fsz fb
 | _::fs,f+1=>F5 fs f K
 | [],_=>False
theorem wF:∀ {fs:List (Nat×Nat×Bool)} {f:Nat} {K:Nat→Nat→Bool→Prop},F5 fs f K→∃ fo fsz fb,fs[f]?=some (fo,fsz,fb)∧K fo fsz fb
 | (fo,fsz,fb)::fs,0,K,h=>⟨fo,fsz,fb,rfl,h⟩
 | _::fs,f+1,K,h=>by
   obtain ⟨fo,fsz,fb,h1,h2⟩:=wF (fs:=fs) (f:=f) h;exact ⟨fo,fsz,fb,by simpa using h1,h2⟩
 | [],_,K,h=>h.elim
def jQ {α:Type}:List α→Nat→(α→Prop)→Prop
 | [],_,_=>False
 | x::_,0,K=>K x
 | _::xs,n+1,K=>jQ xs n K
theorem Ai {α:Type}:∀ {xs:List α} {n:Nat} {K:α→Prop},jQ xs n K→∃ x,xs[n]?=some x∧K x
 | [],_,_,h=>h.elim
 | x::_,0,K,h=>⟨x,rfl,h⟩
 | _::xs,n+1,K,h=>by
   obtain ⟨x,h1,h2⟩:=Ai (xs:=xs) (n:=n) h;exact ⟨x,by simpa using h1,h2⟩
def Yk {α:Type}:List α→Nat→Nat→(List α→Prop)→Prop
 | _,0,0,K=>K []
 | [],_,_,_=>False
 | x::xs,0,n+1,K=>Yk xs 0 n fun r=>K (x::r)
 | _::xs,o+1,n,K=>Yk xs o n K
theorem uS {α:Type}:∀ {xs:List α} {o n:Nat} {K:List α→Prop},Yk xs o n K→o+n≤xs.length∧K ((xs.drop o).take n)
 | [],0,0,K,h=>⟨by simp,h⟩
 | _::_,0,0,K,h=>⟨by simp,h⟩
 | [],0,n+1,_,h=>h.elim
 | [],o+1,n,_,h=>h.elim
 | x::xs,0,n+1,K,h=>by
   obtain ⟨h1,h2⟩:=uS (xs:=xs) (o:=0) (n:=n) h;exact ⟨by simp at h1 ⊢;omega,by simpa using h2⟩
 | _::xs,o+1,n,K,h=>by
   obtain ⟨h1,h2⟩:=uS (xs:=xs) (o:=o) (n:=n) h;exact ⟨by simp at h1 ⊢;omega,by simpa using h2⟩
def TR (te:TE) (f:Nat) (vals:List V) (K:KK):Prop:=
 F5 te.fields f fun fo fsz fb=>
  match vals with
  | [.d x]=>match x with
    | .agg cs=>match fb with
      | true=>Yk cs fo fsz fun r=>K (.d (.agg r)) [] [] []
      | false=>jQ cs fo fun d=>K (.d d) [] [] []
    | _=>False
  | [.agg cs]=>match fb with
    | true=>Yk cs fo fsz fun r=>K (ES r) [] [] []
    | false=>jQ cs fo fun v=>K v [] [] []
  | _=>False
theorem uq (hT:TOK P T) {t f:Nat} {fs:List (Nat×Nat×Bool)} {fo fsz:Nat} {fb:Bool} (hk:(T t).k = .agg fs) (hf:fs[f]?=some (fo,fsz,fb)) (us:Array Value) (w:World) :
  (fb=true→fo+fsz≤us.size→(Instr.field t (.agg us) f).run P w = .ok (.agg (us.extract fo (fo+fsz))) w)∧(fb=false→∀ u,us[fo]?=some u→(Instr.field t (.agg us) f).run P w = .ok u w):=by
 obtain ⟨d,i,h⟩:=hT.facts (t:=t) (by rw [hk];intro e;cases e);have hd:=h.k;rw [hk] at hd;cases d
 case struct fields=>
  simp only [kOf] at hd;split at hd
  case isFalse=>cases hd
  rename_i hall;simp only [TK.agg.injEq] at hd;subst hd;simp only [List.getElem?_map,Option.map_eq_some_iff] at hf;obtain ⟨fd,hfd,he⟩:=hf;simp only [Prod.mk.injEq] at he;obtain ⟨rfl,rfl,rfl⟩:=he;have hfd':fields[f]?=some fd:=by simpa using hfd
  have h1:=(Bool.and_eq_true _ _).mp (List.all_eq_true.1 hall fd (List.mem_of_getElem? hfd));obtain ⟨ii,hii⟩:=Option.isSome_iff_exists.1 h1.1;obtain ⟨dd,hdd⟩:=Option.isSome_iff_exists.1 h1.2;have hagg:=uK (P:=P) hdd w;have hsz:P.cellsOf fd.type=ii.size:=by simp [Program.cellsOf,hii]
  have hrun:(Instr.field t (.agg us) f).run P w=((Go.part fd.type us fd.offset).run P w):=by
   simp [Instr.field,run_underlying h.und,hfd',Go.asAgg]
  refine ⟨fun hb _=>?_,fun hb u hu=>?_⟩
  ·rw [hb] at hagg;rw [hrun];simp [Go.part,hagg,Go.sizeOf,typeInfo,hii,hsz]
  ·rw [hb] at hagg;rw [hrun];simp [Go.part,hagg,hu]
 all_goals (simp only [kOf] at hd;first | (split at hd<;>cases hd) | cases hd)
theorem Ie (hT:TOK P T) {o:Oper} {t f:Nat} {x:Operand} (ho:o.op = .field t x f) {vals:List V} {h:Key→Option Res} {K:KK} (hK:TR (T t) f vals K) :
  ∃ x δ rd nw,K x δ rd nw∧aG P o vals h x δ rd nw:=by
 obtain ⟨fo,fsz,fb,h1,hK⟩:=wF hK;obtain ⟨fs,hk,hfs⟩:∃ fs,(T t).k = .agg fs∧(T t).fields=fs:=by
  unfold TE.fields at h1 ⊢;split at h1
  ·rename_i fs hk;exact ⟨fs,hk,rfl⟩
  ·simp at h1
 rw [hfs] at h1;split at hK
 ·rename_i x0;split at hK
  ·rename_i cs;split at hK
   ·obtain ⟨hle,hK⟩:=uS hK;refine ⟨_,_,_,_,hK,aG.bI fun β u ok w ρ e g1 g2 g3=>?_⟩;simp only [ho,Op.operands,List.map_cons,List.map_nil,List.cons.injEq,and_true] at g1 g2;have hx:=g1 x (by simp);rw [g2] at hx;have hx':=hx.dX;generalize hvx:ρ x=vx at hx';cases hx' with
    | agg us _ e1 e2 e3=>
      refine ⟨_,by simp only [execOp,ho,hvx];rw [Sem.run_bind,(uq hT hk h1 us w).1 rfl (by omega)];rfl,.d _ _ (RdD.Ry (.agg us cs e1 e2 e3) fo fsz hle)⟩
   ·obtain ⟨d,hd,hK⟩:=Ai hK;refine ⟨_,_,_,_,hK,aG.bI fun β u ok w ρ e g1 g2 g3=>?_⟩;simp only [ho,Op.operands,List.map_cons,List.map_nil,List.cons.injEq,and_true] at g1 g2;have hx:=g1 x (by simp);rw [g2] at hx;have hx':=hx.dX;generalize hvx:ρ x=vx at hx';cases hx' with
    | agg us _ e1 e2 e3=>
      have hi:fo<us.size:=(by rw [e1];exact (List.getElem?_eq_some_iff.1 hd).1);refine ⟨us[fo],by simp only [execOp,ho,hvx];rw [Sem.run_bind,(uq hT hk h1 us w).2 rfl us[fo] (by simp [hi])];rfl,.d _ _ (e2 fo _ _ (by simp [hi]) hd)⟩
  ·exact hK.elim
 ·rename_i cs;split at hK
  ·obtain ⟨hle,hK⟩:=uS hK;refine ⟨_,_,_,_,hK,aG.bI fun β u ok w ρ e g1 g2 g3=>?_⟩;simp only [ho,Op.operands,List.map_cons,List.map_nil,List.cons.injEq,and_true] at g1 g2;have hx:=g1 x (by simp);rw [g2] at hx;generalize hvx:ρ x=vx at hx;cases hx with
   | agg us _ e1 e2 e3=>
     refine ⟨_,by simp only [execOp,ho,hvx];rw [Sem.run_bind,(uq hT hk h1 us w).1 rfl (by omega)];rfl,rY (by simp;omega) (fun i v c hv hc=>?_) (fun i v hv=>?_)⟩
     ·obtain ⟨hi,he⟩:=Array.getElem?_eq_some_iff.1 hv;rw [Array.getElem_extract] at he;simp at hi;rw [List.getElem?_take_of_lt (by omega),List.getElem?_drop] at hc;exact e2 (fo+i) v c (Array.getElem?_eq_some_iff.2 ⟨by omega,he⟩) hc
     ·obtain ⟨hi,he⟩:=Array.getElem?_eq_some_iff.1 hv;rw [Array.getElem_extract] at he;simp at hi;exact e3 (fo+i) v (Array.getElem?_eq_some_iff.2 ⟨by omega,he⟩)
  ·obtain ⟨d,hd,hK⟩:=Ai hK;refine ⟨_,_,_,_,hK,aG.bI fun β u ok w ρ e g1 g2 g3=>?_⟩;simp only [ho,Op.operands,List.map_cons,List.map_nil,List.cons.injEq,and_true] at g1 g2;have hx:=g1 x (by simp);rw [g2] at hx;generalize hvx:ρ x=vx at hx;cases hx with
   | agg us _ e1 e2 e3=>
     have hi:fo<us.size:=(by rw [e1];exact (List.getElem?_eq_some_iff.1 hd).1);refine ⟨us[fo],by simp only [execOp,ho,hvx];rw [Sem.run_bind,(uq hT hk h1 us w).2 rfl us[fo] (by simp [hi])];rfl,e2 fo _ _ (by simp [hi]) hd⟩
 ·exact hK.elim
end
def ZP (P:Program) (T:Nat→TE) (mu:Bool) (o:Oper) (vals:List V) (h:Key→Option Res) (n:Nat) (K:KK):Prop:=
 match o.op with
 | .move _=>Lu vals K
 | .assign _=>Lu vals K
 | .pick _ _ _=>QN vals K
 | .alloc t=>TT (T t) n K
 | .box t _=>X3 mu (T t) vals n K
 | .build t parts=>match (T t).k with
   | .arr n e=>OT T t n e parts.toList vals K
   | _=>TS (T t) parts.toList vals K
 | .buildSlice t len parts=>zC T mu t len parts.toList vals n K
 | .load t _=>match vals with
   | [.jP id i]=>TP (T t) [.jP id i] h n K
   | vals=>AQ (T t) vals h K
 | .store t _ _=>match vals with
   | [.jP id i,v]=>OM (T t) [.jP id i,v] h K
   | vals=>aS (T t).known (Lr (T t) vals h K)
 | .nilCheck _=>xI vals K
 | .binOp op t _ _ _=>X4 op (T t) vals K
 | .unOp op _ _=>acP op vals K
 | .convert src dst _=>QS (T src).k (T dst).k vals K
 | .makeFunc fn first _=>F9 fn first.size vals K
 | .makeSlice t _ _=>match mu with
   | true=>F8 T t vals n K
   | false=>BO T t vals n K
 | .fieldAddr t _ f=>BQ (T t) f vals K
 | .field t _ f=>TR (T t) f vals K
 | .indexAddr t _ _=>match vals with
   | [.rsl id len,i]=>zA T t [.rsl id len,i] K
   | vals=>BP T t vals K
 | .index t _ _=>TQ (T t) vals K
 | .extract _ i=>AU i vals K
 | .slice t _ lo hi mx=>Dx T t lo.isSome hi.isSome mx.isSome vals K
 | .makeMap _ r=>match r with
   | none=>Jz n K
   | some _=>False
 | .lookup t _ _ ok=>Gg T (T t) ok vals h K
 | .mapUpdate t _ _ _=>tC T (T t) vals h K
 | .call c=>match c.callee with
   | .value _=>QU P vals h K∨LH P vals h K
   | .builtin .len=>match c.argTypes,c.args with
     | ⟨[t]⟩,⟨[_]⟩=>match (T t).k with
       | .map _ _=>Gj (T t) vals h K
       | _=>X0 (T t) vals K
     | _,_=>False
   | .builtin .delete=>match c.argTypes,c.args with
     | ⟨[t,_]⟩,⟨[_,_]⟩=>Gm T (T t) vals h K
     | _,_=>False
   | .builtin .max=>match c.args with
     | ⟨[_,_]⟩=>XZ vals K
     | _=>False
   | .builtin .append=>match c.argTypes,c.args with
     | ⟨[t,t']⟩,⟨[_,_]⟩=>aS (Nat.beq t t') (OX T t vals h n K)
     | _,_=>False
   | _=>False
 | _=>False
theorem QO {P:Program} {T:Nat→TE} (hT:TOK P T) {mu:Bool} {o:Oper} {vals:List V} {h:Key→Option Res} {n:Nat} {K:KK} (hK:ZP P T mu o vals h n K) :
  ∃ x δ rd nw,K x δ rd nw∧aG P o vals h x δ rd nw:=by
 unfold ZP at hK;split at hK
 ·exact zu (.inl (by assumption)) hK
 ·exact zu (.inr (by assumption)) hK
 ·exact Ls (by assumption) hK
 ·exact Ii hT (by assumption) hK
 ·exact OU (by assumption) hK
 ·split at hK
  ·exact Gn hT (by assumption) (by assumption) hK
  ·exact Ih hT (by assumption) hK
 ·exact xM hT (by assumption) hK
 ·split at hK
  ·exact Ib hT (by assumption) hK
  ·exact LC hT (by assumption) hK
 ·split at hK
  ·exact F7 hT (by assumption) hK
  ·obtain ⟨h1,h2⟩:=ak hK;exact H9 hT (by assumption) h1 h2
 ·exact AL (by assumption) hK
 ·exact OW hT (by assumption) hK
 ·exact QM (by assumption) hK
 ·exact LD hT (by assumption) hK
 ·exact AP (by assumption) hK
 ·split at hK
  ·exact AO hT (by assumption) hK
  ·exact zx hT (by assumption) hK
 ·exact zB hT (by assumption) hK
 ·exact Ie hT (by assumption) hK
 ·split at hK
  ·exact xK hT (by assumption) hK
  ·exact zy hT (by assumption) hK
 ·exact Ic hT (by assumption) hK
 ·exact CY (by assumption) hK
 ·exact Ia hT (by assumption) hK
 ·split at hK
  ·exact CX (by assumption) hK
  ·exact hK.elim
 ·exact Gf hT (by assumption) hK
 ·exact nT hT (by assumption) hK
 ·rename_i c ho;obtain ⟨callee,as,tys⟩:=c;split at hK
  ·rename_i fv hc;simp only at hc;subst hc;exact hK.elim (LG ho) (Ig ho)
  ·rename_i hc;simp only at hc;subst hc;split at hK
   ·rename_i t x h1 h2;simp only at h1 h2;subst h1;subst h2;split at hK
    ·exact Gi hT ho hK
    ·exact OQ hT ho hK
   ·exact hK.elim
  ·rename_i hc;simp only at hc;subst hc;split at hK
   ·rename_i t t' x y h1 h2;simp only at h1 h2;subst h1;subst h2;exact Gl hT ho hK
   ·exact hK.elim
  ·rename_i hc;simp only at hc;subst hc;split at hK
   ·rename_i x y h1;simp only at h1;subst h1;exact OO ho hK
   ·exact hK.elim
  ·rename_i hc;simp only at hc;subst hc;split at hK
   ·rename_i t t' x y h1 h2;simp only at h1 h2;subst h1;subst h2;obtain ⟨h1,h2⟩:=ak hK;have e:t=t':=Nat.eq_of_beq_eq_true h1;subst e;exact Gp hT ho h2
   ·exact hK.elim
  ·exact hK.elim
 ·exact hK.elim
structure Y where
 x:V
 δ:List (Key×Option Res)
 rd:List Key
 nw:List Nat
def S.after (s:S) (o:Oper) (y:Y):S:=s.apply o.dst y.x y.δ y.nw
def fC (ops:Array Oper) (o:Oper) (s:S):Option Bool:=
 match o.guard with
 | none=>some true
 | some (j,want)=>match (ops[j]?).bind (·.dst) with
   | some d=>match s.env d with
     | .d (.bool b)=>some (b==want)
     | .undef=>some false
     | _=>none
   | none=>none
def Yields (P:Program) (ops:Array Oper) (o:Oper) (y:Y) (s:S):Prop:=
 (fC ops o s=some true∧∃ h,aG P o (o.op.operands.toList.map s.ev) h y.x y.δ y.rd y.nw∧(∀ k∈y.rd,s.hp k=h k)∧(∀ i∈y.nw,¬ s.used i)) ∨
 (fC ops o s=some false∧y=⟨.undef,[],[],[]⟩)
theorem Il {ops:Array Oper} {o:Oper} {C:Ctx} {s:S} {a:Act} {w:World} {b:Bool} (hr:Rel C s a w) (hg:∀ j want,o.guard=some (j,want)→∀ d,(ops[j]?).bind (·.dst)=some d→d<C.nt) (h:fC ops o s=some b) :
  Region.wanted o (yielded ops a.tmps)=b:=by
 obtain ⟨β,ok,hr⟩:=hr;unfold fC at h;unfold Region.wanted;split at h
 ·rename_i hgd;simp only [hgd];simpa using h
 ·rename_i j want hgd;simp only [hgd];split at h
  ·rename_i d hd;split at h
   ·rename_i b' hb;have:=hr.env d;rw [hb] at this;have hv:=this.dX;have hlt:d<a.tmps.size:=(by rw [hr.jm];exact hg j want hgd d hd);simp only [yielded,hd,Option.bind_some];have e:a.tmps[d]?=some (a.tmps.getD d undef):=(by simp [hlt]);rw [e];generalize a.tmps.getD d undef=v at hv;cases hv;simp only [Option.some.injEq] at h;subst h;cases b'<;>cases want<;>rfl
   ·rename_i hb;have:=hr.env d;rw [hb] at this;simp only [Option.some.injEq] at h;subst h;have hlt:d<a.tmps.size:=(by rw [hr.jm];exact hg j want hgd d hd);simp only [yielded,hd,Option.bind_some];have e:a.tmps[d]?=some (a.tmps.getD d undef):=(by simp [hlt]);rw [e];generalize a.tmps.getD d undef=v at this;cases this;rfl
   ·cases h
  ·cases h
def abD (nt:Nat) (o:Oper):Bool:=match o.dst with | some d=>Nat.blt d nt | none=>true
def WE (nt:Nat) (o:Oper):Bool:=abD nt o&&o.op.operands.toList.all okO
theorem IW {nt:Nat} {o:Oper} (h:WE nt o=true):(∀ d,o.dst=some d→d<nt)∧∀ y∈o.op.operands.toList,okO y=true:=by
 simp only [WE,Bool.and_eq_true] at h;refine ⟨fun d hd=>?_,List.all_eq_true.1 h.2⟩;have:=h.1;unfold abD at this;rw [hd] at this;exact Nat.le_of_ble_eq_true this
theorem DW {P:Program} {ops:Array Oper} {o:Oper} {y:Y} {C:Ctx} {s:S} {a:Act} {w:World} (hr:Rel C s a w) (hop:WE C.nt o=true) (hg:∀ j want,o.guard=some (j,want)→∀ d,(ops[j]?).bind (·.dst)=some d→d<C.nt)
  (hy:Yields P ops o y s) {K:Act→World→Prop} {Q:Exit→Act→World→Prop} (hK:∀ a' w',Rel C (s.after o y) a' w'→K a' w') :
  if Region.wanted o (yielded ops a.tmps) then o.wp P a w K Q else K (a.put o.dst undef) w:=by
 obtain ⟨hd,ho⟩:=IW hop;rcases hy with ⟨h1,h,h2,h3,h4⟩ | ⟨h1,rfl⟩
 ·rw [Il hr hg h1];exact h2 C s a w hr rfl h3 h4 hd ho K Q hK
 ·rw [Il hr hg h1];obtain ⟨β,ok,hr⟩:=hr;exact hK _ _ ⟨β,ok,hr.put hd .undef⟩
structure Apart (x y:Y):Prop where
 wr:∀ k r,(k,r)∈x.δ→k∉y.rd∧∀ r',(k,r')∉y.δ
 rw:∀ k r,(k,r)∈y.δ→k∉x.rd
 nw:∀ i∈x.nw,i∉y.nw
theorem Apart.symm {x y:Y} (h:Apart x y):Apart y x:=
 ⟨fun k r hk=>⟨h.rw k r hk,fun r' hr'=>(h.wr k r' hr').2 r hk⟩,fun k r hk=>(h.wr k r hk).1,fun i hi hi'=>h.nw i hi' hi⟩
theorem oN {h:Key→Option Res} {δ:List (Key×Option Res)} {k:Key} (hk:∀ r,(k,r)∉δ):kH h δ k=h k:=by
 rcases dN h δ k with ⟨e,_⟩ | ⟨r,hm,_⟩
 ·exact e
 ·exact absurd hm (hk r)
theorem XY {s:S} {dst:Option Tmp} {x:V} {δ:List (Key×Option Res)} {nw:List Nat} {y:Operand} (h:∀ d,dst=some d→y ≠ .tmp d):(s.apply dst x δ nw).ev y=s.ev y:=by
 cases y with
 | tmp t=>
   show (if dst=some t then x else s.env t)=s.env t;rw [if_neg];intro e;exact h t e rfl
 | _=>rfl
theorem NP {ops:Array Oper} {o:Oper} {d:Tmp} (h : .tmp d∈o.op.operands.toList):d∈o.looksAt ops:=
 List.mem_append_left _ (List.mem_filterMap.2 ⟨.tmp d,by simpa using h,rfl⟩)
theorem Hr {ops:Array Oper} {o:Oper} {s:S} {dst:Option Tmp} {x:V} {δ:List (Key×Option Res)} {nw:List Nat} (h:∀ d,dst=some d→d∉o.looksAt ops) :
  fC ops o (s.apply dst x δ nw)=fC ops o s:=by
 unfold fC;cases hg:o.guard with
 | none=>rfl
 | some gw=>
   obtain ⟨j,want⟩:=gw;simp only;cases hd:(ops[j]?).bind (·.dst) with
   | none=>rfl
   | some d=>
     have hl:d∈o.looksAt ops:=List.mem_append_right _ (by simp only [hg];rw [hd];simp);have:(s.apply dst x δ nw).env d=s.env d:=by
      show (if dst=some d then x else s.env d)=s.env d;rw [if_neg];intro e;exact h d e hl
     simp only [this]
theorem Yields.over {P:Program} {ops:Array Oper} {oi oj:Oper} {yi yj:Y} {s:S} (hap:Apart yi yj) (h:∀ d,oi.dst=some d→d∉oj.looksAt ops):Yields P ops oj yj (s.after oi yi)↔Yields P ops oj yj s:=by
 have hw:fC ops oj (s.after oi yi)=fC ops oj s:=Hr h;have hops:oj.op.operands.toList.map (s.after oi yi).ev=oj.op.operands.toList.map s.ev:=List.map_congr_left fun y hy=>XY fun d hd e=>h d hd (NP (e ▸ hy))
 have hh:∀ k∈yj.rd,(s.after oi yi).hp k=s.hp k:=fun k hk=>oN fun r hr=>(hap.wr k r hr).1 hk
 have hu:∀ i∈yj.nw,((s.after oi yi).used i↔s.used i):=fun i hi=>⟨fun h=>h.elim id (fun h'=>absurd hi (hap.nw i h')),fun h => .inl h⟩
 unfold Yields;rw [hw,hops];constructor
 ·rintro (⟨h1,h',h2,h3,h4⟩ | h1)
  ·exact .inl ⟨h1,h',h2,fun k hk=>(hh k hk).symm.trans (h3 k hk),fun i hi hu'=>h4 i hi ((hu i hi).2 hu')⟩
  ·exact .inr h1
 ·rintro (⟨h1,h',h2,h3,h4⟩ | h1)
  ·exact .inl ⟨h1,h',h2,fun k hk=>(hh k hk).trans (h3 k hk),fun i hi hu'=>h4 i hi ((hu i hi).1 hu')⟩
  ·exact .inr h1
theorem J5 (h h':Key→Option Res) {k:Key}:∀ {δ:List (Key×Option Res)} {r:Option Res},(k,r)∈δ→kH h δ k=kH h' δ k
 | [],r,hm=>by cases hm
 | (k',r')::l,r,hm=>by
   by_cases e:k'=k
   ·simp [kH,e]
   ·rcases List.mem_cons.1 hm with hm | hm
    ·cases hm;exact absurd rfl e
    ·simp only [kH,if_neg e];exact J5 h h' hm
theorem Ro {s:S} {oi oj:Oper} {yi yj:Y} (hap:Apart yi yj) (h:∀ d,oi.dst=some d→oj.dst≠some d):(s.after oi yi).after oj yj=(s.after oj yj).after oi yi:=by
 unfold S.after S.apply;congr 1
 ·funext t;by_cases e1:oj.dst=some t<;>by_cases e2:oi.dst=some t<;>simp [e1,e2];exact absurd e1 (h t e2)
 ·funext k;show kH (kH s.hp yi.δ) yj.δ k=kH (kH s.hp yj.δ) yi.δ k;rcases dN s.hp yi.δ k with ⟨e,hno⟩ | ⟨r,hm,e⟩
  ·rw [oN (h:=kH s.hp yj.δ) hno];rcases dN s.hp yj.δ k with ⟨e',hno'⟩ | ⟨r',hm',e'⟩
   ·rw [oN hno',oN hno',oN hno]
   ·exact J5 _ _ hm'
  ·rw [oN (h:=kH s.hp yi.δ) (hap.wr k r hm).2];exact J5 _ _ hm
 ·funext i
  exact propext ⟨fun h=>h.elim (fun h'=>h'.elim (fun h'' => .inl (.inl h'')) (fun h'' => .inr h'')) (fun h' => .inl (.inr h')),
   fun h=>h.elim (fun h'=>h'.elim (fun h'' => .inl (.inl h'')) (fun h'' => .inr h'')) (fun h' => .inl (.inr h'))⟩
section
variable {P:Program} {ops:Array Oper} {md:Region.Mode}
def YE (P:Program) (md:Region.Mode) (ops:Array Oper) (ys:Nat→Y) (K:S→Prop):Nat→Array Bool→S→Prop
 | 0,listed,s=>Region.ready md ops listed=[]∧K s
 | fuel+1,listed,s=>(Region.ready md ops listed=[]→K s) ∧
   ∀ i∈Region.ready md ops listed,∀ o,ops[i]?=some o→Yields P ops o (ys i) s∧YE P md ops ys K fuel (listed.setIfInBounds i true) (s.after o (ys i))
def ED (nt:Nat) (ops:Array Oper):Bool:=ops.toList.all (WE nt)
theorem xk {nt:Nat} (h:ED nt ops=true) {i:Nat} {o:Oper} (hi:ops[i]?=some o):WE nt o=true:=
 List.all_eq_true.1 h o (by have:=Array.mem_of_getElem? hi;simpa using this)
theorem OB {nt:Nat} (h:ED nt ops=true) (o:Oper):∀ j want,o.guard=some (j,want)→∀ d,(ops[j]?).bind (·.dst)=some d→d<nt:=fun j want _ d hd=>by
 cases hj:ops[j]? with
 | none=>rw [hj] at hd;cases hd
 | some oj=>
   rw [hj] at hd;exact (IW (xk h hj)).1 d hd
theorem vS {C:Ctx} (hok:ED C.nt ops=true) {ys:Nat→Y} {K:S→Prop} {Q:Exit→Act→World→Prop} (hQ:∀ s a w,Rel C s a w→K s→Q .normal a w) :
  ∀ (fuel:Nat) (listed:Array Bool) (s:S) (a:Act) (w:World),Rel C s a w→YE P md ops ys K fuel listed s→wpAny P md ops Q fuel listed a w
 | 0,listed,s,a,w,hr,h=>⟨h.1,hQ s a w hr h.2⟩
 | fuel+1,listed,s,a,w,hr,h=>⟨fun h0=>hQ s a w hr (h.1 h0),fun i hi=>by
   obtain ⟨_,o,ho,_⟩:=mem_ready.1 hi;obtain ⟨h1,h2⟩:=h.2 i hi o ho;unfold wpOp;simp only [ho];have:=DW (Q:=Q) hr (xk hok ho) (OB hok o) h1 (K:=wpAny P md ops Q fuel (listed.setIfInBounds i true)) (fun a' w' hr'=>vS hok hQ fuel _ _ a' w' hr' h2);split
   ·rename_i hw;rw [if_pos hw] at this;exact .inl this
   ·rename_i hw;rw [if_neg hw] at this;exact this⟩
theorem Rk {ys:Nat→Y} {K:S→Prop} {i:Nat} {oi:Oper} (hi:ops[i]?=some oi) :
  ∀ (fuel:Nat) (listed:Array Bool) (s:S),
    (∀ j oj,ops[j]?=some oj→j≠i→listed.getD j true=false→(∀ e∈oj.after,Region.binds md e=true→e.on≠i)→oi.apart ops oj=true∧Apart (ys i) (ys j)) →
    i∈Region.ready md ops listed→Yields P ops oi (ys i) s →
    YE P md ops ys K fuel (listed.setIfInBounds i true) (s.after oi (ys i))→YE P md ops ys K (fuel+1) listed s:=by
 intro fuel
 induction fuel with
 | zero=>
   intro listed s _ hr hy H;refine ⟨fun h=>(by rw [h] at hr;cases hr),fun j hj o ho=>?_⟩;by_cases hji:j=i
   ·subst hji;rw [hi] at ho;cases ho;exact ⟨hy,H⟩
   ·have:=ready_mono hj hji;rw [H.1] at this;cases this
 | succ fuel ih=>
   intro listed s hfree hr hy H;refine ⟨fun h=>(by rw [h] at hr;cases hr),fun j hj oj hoj=>?_⟩;by_cases hji:j=i
   ·subst hji;rw [hi] at hoj;cases hoj;exact ⟨hy,H⟩
   ·obtain ⟨hjun,o2,ho2,hall⟩:=mem_ready.1 hj;rw [hoj] at ho2;cases ho2;obtain ⟨h1,h2⟩:=H.2 j (ready_mono hj hji) oj hoj;have hnot:∀ e∈oj.after,Region.binds md e=true→e.on≠i:=fun e he hb heq=>by
     have h1:=hall e he hb;have h0:=(mem_ready.1 hr).1;rw [heq] at h1;rcases Nat.lt_or_ge i listed.size with h' | h'
     ·simp [h'] at h0 h1;rw [h0] at h1;cases h1
     ·simp [Array.getElem?_eq_none h'] at h1
    obtain ⟨hap,hap2⟩:=hfree j oj hoj hji hjun hnot;obtain ⟨p1,p2,p3⟩:=Oper.apart_spec hap;have hyj:Yields P ops oj (ys j) s:=(Yields.over hap2 p1).1 h1;have hyi:Yields P ops oi (ys i) (s.after oj (ys j)):=(Yields.over hap2.symm p3).2 hy;refine ⟨hyj,ih (listed.setIfInBounds j true) (s.after oj (ys j)) ?_ (ready_mono hr (Ne.symm hji)) hyi ?_⟩
    ·intro k ok hk hki hun hno;refine hfree k ok hk hki ?_ hno;by_cases hjk:j=k
     ·subst hjk;exact hjun
     ·rw [getD_set_ne true hjk] at hun;exact hun
    ·rw [Array.setIfInBounds_comm _ _ hji,← Ro hap2 p2];exact h2
def U2 (P:Program) (ops:Array Oper) (ys:Nat→Y) (K:S→Prop):List Oper→Nat→S→Prop
 | [],_,s=>K s
 | o::l,k,s=>Yields P ops o (ys k) s∧U2 P ops ys K l (k+1) (s.after o (ys k))
def Px (md:Region.Mode) (ops:Array Oper) (ys:Nat→Y):Prop:=
 ∀ i j oj,ops[j]?=some oj→i<j→(∀ e∈oj.after,Region.binds md e=true→e.on≠i)→Apart (ys i) (ys j)
theorem Po {ys:Nat→Y} {K:S→Prop} (hap:Px md ops ys):∀ (l:List Oper) (k:Nat) (listed:Array Bool) (s:S),(∀ j,l[j]?=ops[k+j]?) →
  (∀ j,j<k→listed.getD j true=true)→Region.lexFrom md ops l.length k listed=true→U2 P ops ys K l k s→YE P md ops ys K l.length listed s
 | [],_,_,_,_,_,hB,h=>⟨by simpa [Region.lexFrom] using hB,h⟩
 | o::l,k,listed,s,hl,hlist,hB,h=>by
   have h0:ops[k]?=some o:=(by simpa using (hl 0).symm);simp only [List.length_cons,Region.lexFrom,Bool.and_eq_true] at hB;obtain ⟨⟨hr,hf⟩,hB'⟩:=hB;have hfree:=Region.free_spec h0 hf;have hr':k∈Region.ready md ops listed:=(by simpa using hr);refine Rk h0 l.length listed s (fun j oj hj hne hun hno=>⟨hfree j oj hj hne hun hno,hap k j oj hj ?_ hno⟩) hr' h.1
    (Po hap l (k+1) _ _ (fun j=>by have:=hl (j+1);simpa [Nat.add_assoc,Nat.add_comm 1 j] using this) (fun j hj=>?_) hB' h.2)
   ·rcases Nat.lt_or_ge k j with h' | h'
    ·exact h'
    ·have:=hlist j (by omega);rw [hun] at this;cases this
   ·by_cases e:k=j
    ·subst e;have hsz:k<listed.size:=by
      have:=(mem_ready.1 hr').1;rcases Nat.lt_or_ge k listed.size with h' | h'
      ·exact h'
      ·simp [Array.getElem?_eq_none h'] at this
     simp [hsz]
    ·rw [getD_set_ne true e];exact hlist j (by omega)
theorem Cj {C:Ctx} {id:Nat} (hm:P.follows .mixedOrders=true) (hB:Region.lexB .any ops=true) (hok:ED C.nt ops=true) {ys:Nat→Y} (hap:Px .any ops ys) {K:S→Prop} {Q:Exit→Act→World→Prop}
  (hQ:∀ s a w,Rel C s a w→K s→Q .normal a w) {s:S} {a:Act} {w:World} (hr:Rel C s a w) (h:U2 P ops ys K ops.toList 0 s):(Code.region id ops true).wp P Q a w:=by
 simp only [Region.lexB,Bool.and_eq_true] at hB;refine wp_region_any hm (vS (ys:=ys) hok hQ ops.size _ s a _ hr.drew ?_);have:=Po (ys:=ys) hap ops.toList 0 (Array.replicate ops.size false) s (by simp) (fun j hj=>by omega) (by simpa using hB.2) h
 simpa using this
theorem Bf {C:Ctx} (hok:ED C.nt ops=true) {ys:Nat→Y} {K:S→Prop} {Q:Exit→Act→World→Prop} (hQ:∀ s a w,Rel C s a w→K s→Q .normal a w) :
  ∀ (l:List Oper) (k:Nat),(∀ o∈l,o∈ops)→∀ (s:S) (a:Act) (w:World),Rel C s a w→U2 P ops ys K l k s→wpList P ops Q l a w
 | [],k,_,s,a,w,hr,h=>hQ s a w hr h
 | o::l,k,hl,s,a,w,hr,h=>by
   obtain ⟨i,hi⟩:=Array.getElem?_of_mem (hl o (by simp));have:=DW (Q:=Q) hr (xk hok hi) (OB hok o) h.1 (K:=wpList P ops Q l) (fun a' w' hr'=>Bf hok hQ l (k+1) (fun o ho=>hl o (by simp [ho])) _ a' w' hr' h.2);unfold wpList;split
   ·rename_i hw;rw [if_pos hw] at this;exact .inl this
   ·rename_i hw;rw [if_neg hw] at this;exact this
theorem DK {C:Ctx} {id:Nat} (hok:ED C.nt ops=true) {ys:Nat→Y} {K:S→Prop} {Q:Exit→Act→World→Prop} (hQ:∀ s a w,Rel C s a w→K s→Q .normal a w)
  {s:S} {a:Act} {w:World} (hr:Rel C s a w) (h:U2 P ops ys K ops.toList 0 s):(Code.region id ops false).wp P Q a w:=
 wp_region_list (Bf hok hQ ops.toList 0 (fun o ho=>by simpa using ho) s a w hr h)
end
end Go.Abs
