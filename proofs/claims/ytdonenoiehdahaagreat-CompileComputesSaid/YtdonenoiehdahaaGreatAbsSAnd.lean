/- A state weakened (renamed, forgotten, frozen); loops; how a function's contract follows from its walk. -/
import Derived.Test.YtdonenoiehdahaaGreatAbsQAnd
set_option linter.all false
namespace Go.Abs
open Go Go.RowKit
abbrev Ren:=List (Nat×Option Nat)
def nJ:Ren→Nat→(Option Nat→Prop)→Prop
 | [],_,_=>False
 | (i',o)::m,i,K=>match Nat.beq i' i with | true=>K o | false=>nJ m i K
def iH:Ren→Nat→Option (Option Nat)
 | [],_=>none
 | (i',o)::m,i=>match Nat.beq i' i with | true=>some o | false=>iH m i
theorem je {i:Nat} {K:Option Nat→Prop}:∀ {m:Ren},nJ m i K→∃ o,iH m i=some o∧K o
 | [],h=>h.elim
 | (i',o)::m,h=>by
   unfold nJ at h;unfold iH;cases hb:Nat.beq i' i with
   | true=>rw [hb] at h;exact ⟨o,rfl,h⟩
   | false=>rw [hb] at h;exact je h
def oldId (o:Option Nat) (id:Nat) (p:Prop):Prop:=match o with | some id'=>aP (Nat.beq id' id) p | none=>False
def vW1 (h:Key→Option Res) (m:Ren) (fz:List Nat) (v v':V) (p:Prop):Prop:=
 match v' with
 | .any=>p
 | .d y=>match v with
   | .d x=>x=y∧p
   | .aG=>D.list []=y∧p
   | .emp=>D.list []=y∧p
   | .sl id sz off len=>aP (inB id fz) (jw (h (id,0)) fun sz2 xs=>aP (Nat.beq sz sz2) (∃ ys,(xs.drop off).take len=ys∧off+len≤xs.length∧D.list ys=y∧p))
   | _=>False
 | .aG=>match v with | .aG=>p | _=>False
 | .emp=>match v with | .aG=>p | .emp=>p | _=>False
 | .ptr id' off'=>match v with
   | .ptr id off=>nJ m id' fun o=>oldId o id (off=off'∧p)
   | _=>False
 | .sl id' sz' off' len'=>match v with
   | .sl id sz off len=>nJ m id' fun o=>oldId o id (sz=sz'∧off=off'∧len=len'∧p)
   | .aG=>nJ m id' fun o=>match o with | none=>off'=0∧len'=0∧p | some _=>False
   | .emp=>nJ m id' fun o=>match o with | none=>off'=0∧len'=0∧p | some _=>False
   | _=>False
 | .ael id' sz' i' off'=>match v with
   | .ael id sz i off=>nJ m id' fun o=>oldId o id (sz=sz'∧i=i'∧off=off'∧p)
   | _=>False
 | .map id'=>match v with
   | .map id=>nJ m id' fun o=>oldId o id p
   | _=>False
 | .rsl id' len'=>match v with
   | .rsl id len=>nJ m id' fun o=>oldId o id (len=len'∧p)
   | _=>False
 | _=>False
def vWs (h:Key→Option Res) (m:Ren) (fz:List Nat):List V→List V→Prop→Prop
 | [],[],p=>p
 | v::vs,v'::vs',p=>vW1 h m fz v v' (vWs h m fz vs vs' p)
 | _,_,_=>False
def vW (h:Key→Option Res) (m:Ren) (fz:List Nat) (v v':V) (p:Prop):Prop:=
 match v' with
 | .agg cs'=>match v with
   | .agg cs=>vWs h m fz cs cs' p
   | _=>False
 | .tuple cs'=>match v with
   | .tuple cs=>vWs h m fz cs cs' p
   | _=>False
 | .func fn' f' c'=>match v with
   | .func fn f c=>fn=fn'∧vWs h m fz f f' (vWs h m fz c c' p)
   | _=>False
 | v'=>vW1 h m fz v v' p
def YP (h:Key→Option Res) (m:Ren) (fz:List Nat) (k':Key) (r':Option Res) (p:Prop):Prop:=
 nJ m k'.1 fun o=>match o with
  | none=>match r' with
    | some (.arr sz [])=>k'.2=0∧0<sz∧p
    | _=>False
  | some id=>match r' with
    | some (.cell v')=>yF (h (id,k'.2)) fun v=>vW h m fz v v' p
    | some (.arr sz' xs')=>jw (h (id,k'.2)) fun sz xs=>sz=sz'∧xs=xs'∧p
    | some (.map es')=>match h (id,k'.2) with
      | some (.map es)=>es=es'∧p
      | _=>False
    | some (.rows sz' rs' out')=>qF (h (id,k'.2)) fun sz rs out=>sz=sz'∧rs=rs'∧(match out' with
      | none=>(match out with | none=>p | some _=>False)
      | some (i',a')=>(match out with | none=>False | some (i,a)=>i=i'∧nJ m a' fun o=>oldId o a p))
    | none=>False
def XT (l:SL) (m:Ren) (fz:List Nat):List (Nat×V)→Prop→Prop
 | [],p=>p
 | (t,v')::env,p=>vV l.env t fun v=>vW (iG l.hp) m fz v v' (XT l m fz env p)
def hpW (l:SL) (m:Ren) (fz:List Nat):List (Key×Option Res)→Prop→Prop
 | [],p=>p
 | (k',r')::hp,p=>YP (iG l.hp) m fz k' r' (hpW l m fz hp p)
def Ap (fz:List Nat):Ren→Bool
 | []=>true
 | (_,none)::m=>Ap fz m
 | (_,some i)::m=>!inB i fz&&m.all (fun e=>match e.2 with | some j=>!Nat.beq i j | none=>true)&&Ap fz m
def XQ (h:Key→Option Res):List Nat→Prop→Prop
 | [],p=>p
 | i::is,p=>jw (h (i,0)) fun _ _=>XQ h is p
def QE (m:Ren):List Nat→Prop→Prop
 | [],p=>p
 | i::is,p=>nJ m i fun o=>oldId o i (QE m is p)
theorem DZ {m:Ren}:∀ {is:List Nat} {p:Prop},QE m is p→(∀ i∈is,iH m i=some (some i))∧p
 | [],p,h=>⟨by simp,h⟩
 | i::is,p,h=>by
   unfold QE at h;obtain ⟨o,h1,h2⟩:=je h;unfold oldId at h2;split at h2
   ·obtain ⟨h3,h4⟩:=ah h2;obtain ⟨h5,h6⟩:=DZ h4;refine ⟨fun j hj=>?_,h6⟩;rcases List.mem_cons.1 hj with rfl | hj
    ·rw [h1,Nat.eq_of_beq_eq_true h3]
    ·exact h5 j hj
   ·exact h2.elim
def Hl (hp:List (Key×Option Res)) (i:Nat):Bool:=match hp with
 | []=>false
 | (k,_)::hp=>match Nat.beq k.1 i with | true=>true | false=>Hl hp i
def Hg (hp:List (Key×Option Res)):Ren→Ren
 | []=>[]
 | (i,o)::m=>match Hl hp i with | true=>(i,o)::Hg hp m | false=>Hg hp m
def wS (h:Key→Option Res) (U:List Nat):Ren→Prop→Prop
 | [],p=>p
 | (_,none)::m,p=>wS h U m p
 | (j,some k)::m,p=>match Nat.beq j k with
   | true=>wS h U m p
   | false=>match inB k U with
     | false=>wS h U m p
     | true=>jw (h (k,0)) fun _ _=>wS h U m p
def xH (U:List Nat) (m:Ren) (fz:List Nat) (l l':SL):Prop:=
 QE m U <| aP (Ap fz (Hg l'.hp m)) (wS (iG l.hp) U (Hg l'.hp m) (XQ (iG l.hp) fz (l'.used=m.map (·.1)∧XT l m fz l'.env (hpW l m fz l'.hp True))))
theorem sJ {i:Nat} {x:Key} {r:Res}:∀ {hp:List (Key×Option Res)},iG hp x=some r→x.1=i→Hl hp i=true
 | [],h,_=>by cases h
 | (k,o)::hp,h,e=>by
   unfold Hl;cases hb:Nat.beq k.1 i with
   | true=>rfl
   | false=>
     unfold iG at h;cases hk:FT k x with
     | true=>rw [lZ.1 hk,e,Nat.beq_refl] at hb;cases hb
     | false=>rw [hk] at h;exact sJ h e
theorem jL {i:Nat} {hp:List (Key×Option Res)} (hl:Hl hp i=true):∀ {m:Ren},iH (Hg hp m) i=iH m i
 | []=>rfl
 | (a,o)::m=>by
   unfold Hg;cases hb:Nat.beq a i with
   | true=>
     have e:=Nat.eq_of_beq_eq_true hb;subst e;rw [hl];unfold iH;rw [hb]
   | false=>
     cases ha:Hl hp a with
     | true=>simp only [iH,hb];exact jL hl
     | false=>simp only [iH,hb];exact jL hl
theorem kD {h:Key→Option Res} {U:List Nat}:∀ {m:Ren} {p:Prop},wS h U m p→(∀ j k,(j,some k)∈m→j=k∨k∉U∨∃ sz xs,h (k,0)=some (.arr sz xs))∧p
 | [],p,hp=>⟨(fun j k hm=>by cases hm),hp⟩
 | (a,none)::m,p,hp=>by
   obtain ⟨h1,h2⟩:=kD (m:=m) hp
   exact ⟨fun j k hm=>by
    rcases List.mem_cons.1 hm with hm | hm
    ·cases hm
    ·exact h1 j k hm,h2⟩
 | (a,some b)::m,p,hp=>by
   unfold wS at hp;cases hb:Nat.beq a b with
   | true=>
     rw [hb] at hp;obtain ⟨h1,h2⟩:=kD (m:=m) hp
     exact ⟨fun j k hm=>by
      rcases List.mem_cons.1 hm with hm | hm
      ·cases hm;exact .inl (Nat.eq_of_beq_eq_true hb)
      ·exact h1 j k hm,h2⟩
   | false=>
     rw [hb] at hp;cases hu:inB b U with
     | false=>
       rw [hu] at hp;obtain ⟨h1,h2⟩:=kD (m:=m) hp
       exact ⟨fun j k hm=>by
        rcases List.mem_cons.1 hm with hm | hm
        ·cases hm;exact .inr (.inl (uK hu))
        ·exact h1 j k hm,h2⟩
     | true=>
       rw [hu] at hp;obtain ⟨sz,xs,h0,hp⟩:=bW hp;obtain ⟨h1,h2⟩:=kD (m:=m) hp
       exact ⟨fun j k hm=>by
        rcases List.mem_cons.1 hm with hm | hm
        ·cases hm;exact .inr (.inr ⟨sz,xs,h0⟩)
        ·exact h1 j k hm,h2⟩
theorem Mc {i:Nat}:∀ {l:List Nat},inB i l=true→i∈l
 | [],h=>by cases h
 | x::xs,h=>by
   unfold inB at h;split at h
   ·rename_i hx;rw [Nat.eq_of_beq_eq_true hx];exact List.mem_cons_self
   ·exact List.mem_cons_of_mem _ (Mc h)
theorem bG {i:Nat} {o:Option Nat}:∀ {m:Ren},iH m i=some o→(i,o)∈m
 | [],h=>by cases h
 | (i',o')::m,h=>by
   unfold iH at h;cases hb:Nat.beq i' i with
   | true=>rw [hb] at h;simp at h;rw [Nat.eq_of_beq_eq_true hb,h];exact List.mem_cons_self
   | false=>rw [hb] at h;exact List.mem_cons_of_mem _ (bG h)
theorem y9 {fz:List Nat}:∀ {m:Ren},Ap fz m=true→∀ i j k,(i,some k)∈m→(j,some k)∈m→iH m i=some (some k)→iH m j=some (some k)→i=j
 | [],_,i,j,k,hi,_,_,_=>by cases hi
 | (a,none)::m,h,i,j,k,hi,hj,fi,fj=>by
   have h':Ap fz m=true:=h;have ci:Nat.beq a i=false:=by
    unfold iH at fi;cases hb:Nat.beq a i with
    | true=>rw [hb] at fi;cases fi
    | false=>rfl
   have cj:Nat.beq a j=false:=by
    unfold iH at fj;cases hb:Nat.beq a j with
    | true=>rw [hb] at fj;cases fj
    | false=>rfl
   unfold iH at fi fj;rw [ci] at fi;rw [cj] at fj;exact y9 h' i j k (bG fi) (bG fj) fi fj
 | (a,some b)::m,h,i,j,k,hi,hj,fi,fj=>by
   unfold Ap at h;simp only [Bool.and_eq_true] at h;obtain ⟨⟨h1,h2⟩,h3⟩:=h;have hno:∀ x,(x,some b)∉m:=fun x hx=>by
    have:=List.all_eq_true.1 h2 _ hx;simp [Nat.beq_refl] at this
   unfold iH at fi fj;cases ci:Nat.beq a i with
   | true=>
     rw [ci] at fi;simp at fi;subst fi;cases cj:Nat.beq a j with
     | true=>rw [← Nat.eq_of_beq_eq_true ci,← Nat.eq_of_beq_eq_true cj]
     | false=>rw [cj] at fj;exact absurd (bG fj) (hno j)
   | false=>
     rw [ci] at fi;cases cj:Nat.beq a j with
     | true=>
       rw [cj] at fj;simp at fj;subst fj;exact absurd (bG fi) (hno i)
     | false=>
       rw [cj] at fj;exact y9 h3 i j k (bG fi) (bG fj) fi fj
theorem Dh {fz:List Nat}:∀ {m:Ren},Ap fz m=true→∀ i k,(i,some k)∈m→k∉fz
 | [],_,i,k,hi=>by cases hi
 | (a,none)::m,h,i,k,hi=>by
   rcases List.mem_cons.1 hi with e | hi
   ·cases e
   ·exact Dh (m:=m) h i k hi
 | (a,some b)::m,h,i,k,hi=>by
   unfold Ap at h;simp only [Bool.and_eq_true] at h;rcases List.mem_cons.1 hi with e | hi
   ·cases e;have:=h.1.1;exact uK (by simpa using this)
   ·exact Dh (m:=m) h.2 i k hi
theorem Hw {h:Key→Option Res}:∀ {fz:List Nat} {p:Prop},XQ h fz p→(∀ i∈fz,∃ sz xs,h (i,0)=some (.arr sz xs))∧p
 | [],p,hp=>⟨by simp,hp⟩
 | i::fz,p,hp=>by
   unfold XQ at hp;obtain ⟨sz,xs,h1,h2⟩:=bW hp;obtain ⟨h3,h4⟩:=Hw h2
   exact ⟨fun j hj=>by
    rcases List.mem_cons.1 hj with rfl | hj
    ·exact ⟨sz,xs,h1⟩
    ·exact h3 j hj,h4⟩
section
variable {C:Ctx} {β:Nat→Value} {ok:Nat→Prop} {l:SL} {a:Act} {w:World} {m:Ren} {fz:List Nat}
def kM (β:Nat→Value) (m:Ren) (i:Nat):Value:=match iH m i with | some (some k)=>β k | _ => .slice none 0 0
def okZ (β:Nat→Value) (ok:Nat→Prop) (fz:List Nat) (b:Nat):Prop:=ok b∨∃ i∈fz,aB (β i)=some b
theorem Gh (h:RelB C β ok l.toS a w) {v v':V} {p:Prop} (hw:vW1 (iG l.hp) m fz v v' p) :
  p∧∀ val,RdV β l.toS.used ok w val v→RdV (kM β m) (fun i=>i∈m.map (·.1)) (okZ β ok fz) w val v':=by
 have hokz:∀ b,ok b→okZ β ok fz b:=fun b hb => .inl hb
 have look:∀ {i id:Nat} {q:Prop},(nJ m i fun o=>oldId o id q)→(i∈m.map (·.1)∧kM β m i=β id)∧q:=fun {i id q} h=>by
  obtain ⟨o,h1,h2⟩:=je h;unfold oldId at h2;split at h2
  ·obtain ⟨h3,h4⟩:=ah h2;refine ⟨⟨List.mem_map.2 ⟨_,bG h1,rfl⟩,?_⟩,h4⟩;unfold kM;rw [h1,← Nat.eq_of_beq_eq_true h3]
  ·exact h2.elim
 unfold vW1 at hw;split at hw
 ·exact ⟨hw,fun val _ => .any _⟩
 ·split at hw
  ·obtain ⟨rfl,hp⟩:=hw;exact ⟨hp,fun val hv => .d _ _ (hv.fB.mono (fun _ _=>rfl) hokz)⟩
  ·obtain ⟨rfl,hp⟩:=hw;exact ⟨hp,fun val hv=>by cases hv;exact .d _ _ (.lC _)⟩
  ·obtain ⟨rfl,hp⟩:=hw;exact ⟨hp,fun val hv=>by cases hv;exact .d _ _ (.lC _)⟩
  ·rename_i id sz off len;obtain ⟨hf,hw⟩:=ah hw;obtain ⟨sz2,xs,hh,hw⟩:=bW hw;obtain ⟨hs,ys,rfl,hl,rfl,hp⟩:=ah hw;have e:sz=sz2:=Nat.eq_of_beq_eq_true hs;subst e;exact ⟨hp,fun val hv => .d _ _ (RdD.Du hv (h.heap _ _ hh).2.2 hl (fun b hb => .inr ⟨id,Mc hf,hb⟩) hokz)⟩
  ·exact hw.elim
 ·split at hw
  ·exact ⟨hw,fun val hv=>by cases hv;exact .aG⟩
  ·exact hw.elim
 ·split at hw
  ·exact ⟨hw,fun val hv=>by cases hv;exact .emp _⟩
  ·exact ⟨hw,fun val hv=>by cases hv;exact .emp _⟩
  ·exact hw.elim
 ·split at hw
  ·obtain ⟨⟨h1,h2⟩,rfl,hp⟩:=look hw
   exact ⟨hp,fun val hv=>by
    cases hv with
    | ptr _ _ b q1 q2=>exact .ptr _ _ b h1 (h2.trans q2)⟩
  ·exact hw.elim
 ·split at hw
  ·obtain ⟨⟨h1,h2⟩,rfl,rfl,rfl,hp⟩:=look hw
   exact ⟨hp,fun val hv=>by
    cases hv with
    | sl _ _ _ _ n cap a0 a1 q1 q2 q3 q4 q5=>exact .sl _ _ _ _ n cap a0 a1 h1 (h2.trans q2) q3 q4 q5⟩
  ·obtain ⟨o,h1,h2⟩:=je hw;split at h2
   ·obtain ⟨rfl,rfl,hp⟩:=h2;refine ⟨hp,fun val hv=>?_⟩;cases hv;exact RdV.sl _ _ 0 0 0 0 none none (List.mem_map.2 ⟨_,bG h1,rfl⟩) (by unfold kM;rw [h1]) (by omega) (by simp) (fun hc=>by omega)
   ·exact h2.elim
  ·obtain ⟨o,h1,h2⟩:=je hw;split at h2
   ·obtain ⟨rfl,rfl,hp⟩:=h2;refine ⟨hp,fun val hv=>?_⟩;cases hv;exact RdV.sl _ _ 0 0 0 0 none _ (List.mem_map.2 ⟨_,bG h1,rfl⟩) (by unfold kM;rw [h1]) (by omega) (by simp) (fun hc=>by omega)
   ·exact h2.elim
  ·exact hw.elim
 ·split at hw
  ·obtain ⟨⟨h1,h2⟩,rfl,rfl,rfl,hp⟩:=look hw
   exact ⟨hp,fun val hv=>by
    cases hv with
    | ael _ _ _ _ b o n cap q1 q2=>exact .ael _ _ _ _ b o n cap h1 (h2.trans q2)⟩
  ·exact hw.elim
 ·split at hw
  ·obtain ⟨⟨h1,h2⟩,hp⟩:=look hw
   exact ⟨hp,fun val hv=>by
    cases hv with
    | map _ r q1 q2=>exact .map _ r h1 (h2.trans q2)⟩
  ·exact hw.elim
 ·split at hw
  ·obtain ⟨⟨h1,h2⟩,rfl,hp⟩:=look hw
   exact ⟨hp,fun val hv=>by
    cases hv with
    | rsl _ _ cap a q1 q2 q3=>exact .rsl _ _ cap a h1 (h2.trans q2) q3⟩
  ·exact hw.elim
 ·exact hw.elim
theorem oM (h:RelB C β ok l.toS a w):∀ {vs vs':List V} {p:Prop},vWs (iG l.hp) m fz vs vs' p →
  p∧vs.length=vs'.length∧∀ (i:Nat) val v v',vs[i]?=some v→vs'[i]?=some v'→RdV β l.toS.used ok w val v→RdV (kM β m) (fun i=>i∈m.map (·.1)) (okZ β ok fz) w val v'
 | [],[],p,hw=>⟨hw,rfl,fun i val v v' hv=>by simp at hv⟩
 | v::vs,v'::vs',p,hw=>by
   unfold vWs at hw;obtain ⟨h1,h2⟩:=Gh h hw;obtain ⟨h3,h4,h5⟩:=oM h h1;refine ⟨h3,by simp [h4],fun i val u u' hu hu' hr=>?_⟩;cases i with
   | zero=>simp at hu hu';subst hu;subst hu';exact h2 val hr
   | succ i=>exact h5 i val u u' (by simpa using hu) (by simpa using hu') hr
 | [],_::_,p,hw=>by unfold vWs at hw;exact hw.elim
 | _::_,[],p,hw=>by unfold vWs at hw;exact hw.elim
theorem Kv (h:RelB C β ok l.toS a w) {v v':V} {p:Prop} (hw:vW (iG l.hp) m fz v v' p) :
  p∧∀ val,RdV β l.toS.used ok w val v→RdV (kM β m) (fun i=>i∈m.map (·.1)) (okZ β ok fz) w val v':=by
 have pick:∀ (us:Array Value) (cs cs':List V),us.size=cs.length→cs.length=cs'.length→(∀ (i:Nat) v c,us[i]?=some v→cs[i]?=some c→RdV β l.toS.used ok w v c) →
   (∀ (i:Nat) val v v',cs[i]?=some v→cs'[i]?=some v'→RdV β l.toS.used ok w val v→RdV (kM β m) (fun i=>i∈m.map (·.1)) (okZ β ok fz) w val v') →
   ∀ (i:Nat) v c,us[i]?=some v→cs'[i]?=some c→RdV (kM β m) (fun i=>i∈m.map (·.1)) (okZ β ok fz) w v c:=fun us cs cs' e1 e2 hr hs i v c hv hc=>by
  have hi:i<cs.length:=by rw [← e1];exact (Array.getElem?_eq_some_iff.1 hv).1
  have hcs:cs[i]?=some cs[i]:=by simp
  exact hs i v _ c hcs hc (hr i v _ hv hcs)
 unfold vW at hw;split at hw
 ·split at hw
  ·obtain ⟨h1,h2,h3⟩:=oM h hw;refine ⟨h1,fun val hv=>?_⟩;cases hv with
   | agg us _ q1 q2 q3=>exact .agg us _ (q1.trans h2) (pick us _ _ q1 h2 q2 h3) q3
  ·exact hw.elim
 ·split at hw
  ·obtain ⟨h1,h2,h3⟩:=oM h hw;refine ⟨h1,fun val hv=>?_⟩;cases hv with
   | tuple us _ q1 q2=>exact .tuple us _ (q1.trans h2) (pick us _ _ q1 h2 q2 h3)
  ·exact hw.elim
 ·split at hw
  ·obtain ⟨rfl,hw⟩:=hw;obtain ⟨h1,h2,h3⟩:=oM h hw;obtain ⟨g1,g2,g3⟩:=oM h h1;refine ⟨g1,fun val hv=>?_⟩;cases hv with
   | func _ fs cs _ _ q1 q2 q3 q4=>exact .func _ fs cs _ _ (q1.trans h2) (q2.trans g2) (pick fs _ _ q1 h2 q3 h3) (pick cs _ _ q2 g2 q4 g3)
  ·exact hw.elim
 ·exact Gh h hw
theorem ER (h:RelB C β ok l.toS a w):∀ {env:List (Nat×V)} {p:Prop},XT l m fz env p→p∧∀ t,RdV (kM β m) (fun i=>i∈m.map (·.1)) (okZ β ok fz) w (a.tmps.getD t undef) (pU env t)
 | [],p,hw=>⟨hw,fun t => .any _⟩
 | (t0,v')::env,p,hw=>by
   unfold XT at hw;rw [jh] at hw;obtain ⟨h1,h2⟩:=Kv h hw;obtain ⟨h3,h4⟩:=ER h h1;refine ⟨h3,fun t=>?_⟩;unfold pU;cases hb:Nat.beq t0 t with
   | true=>rw [← Nat.eq_of_beq_eq_true hb];exact h2 _ (h.env t0)
   | false=>exact h4 t
theorem Blk.same {β β':Nat→Value} {w:World} {k k':Key} {r r':Res} (hβ:β' k'.1=β k.1) (hr:(∀ sz rs out,r' ≠ .rows sz rs out)∨∃ sz rs out sz' out',r = .rows sz rs out∧r' = .rows sz' rs out'∧∀ j,kS out' j=kS out j) {b:Nat} (h:Blk β' w k' r' b):Blk β w k r b:=by
 rcases h with h | h
 ·exact .inl (hβ ▸ h)
 ·rcases hr with hr | ⟨sz,rs,out,sz',out',rfl,rfl,he⟩
  ·cases r' with
   | rows sz rs out=>exact absurd rfl (hr sz rs out)
   | cell _=>exact h.elim
   | arr _ _=>exact h.elim
   | map _=>exact h.elim
  ·obtain ⟨a,cap,len,i,u,h1,h2,h3,h4,h5⟩:=h;exact .inr ⟨a,cap,len,i,u,hβ ▸ h1,h2,(he i) ▸ h3,h4,h5⟩
theorem Ou (h:RelB C β ok l.toS a w) {k':Key} {r':Option Res} {p:Prop} (hw:YP (iG l.hp) m fz k' r' p) :
  p∧k'.1∈m.map (·.1)∧∃ r,r'=some r∧Own (kM β m) (fun i=>i∈m.map (·.1)) (okZ β ok fz) w k' r ∧
   ((iH m k'.1=some none∧∀ b,¬ Blk (kM β m) w k' r b)∨∃ id r0,iH m k'.1=some (some id)∧iG l.hp (id,k'.2)=some r0∧(∀ b,Blk (kM β m) w k' r b→Blk β w (id,k'.2) r0 b)∧(∀ v,r = .cell v↔∃ v0,r0 = .cell v0∧r = .cell v)):=by
 have hokz:∀ b,ok b→okZ β ok fz b:=fun b hb => .inl hb
 unfold YP at hw;obtain ⟨o,h1,h2⟩:=je hw;have hmem:k'.1∈m.map (·.1):=List.mem_map.2 ⟨_,bG h1,rfl⟩;split at h2
 ·split at h2
  ·obtain ⟨h3,h4,h5⟩:=h2;have hβ:kM β m k'.1 = .slice none 0 0:=(by unfold kM;rw [h1]);exact ⟨h5,hmem,_,rfl,⟨h3,none,0,hβ,by simp,by simp [maxLen],h4,by simp,fun hc=>by omega⟩,.inl ⟨h1,fun b hb=>by rcases hb with hb | hb;(· rw [hβ] at hb;cases hb);exact hb⟩⟩
  ·exact h2.elim
 ·rename_i id;have hβ:kM β m k'.1=β id:=by unfold kM;rw [h1]
  split at h2
  ·obtain ⟨v,h3,h4⟩:=qG h2;obtain ⟨h5,h6⟩:=Kv h h4;obtain ⟨_,b,c,T,v0,e1,e2,e3,e4,e5⟩:=h.heap _ _ h3;exact ⟨h5,hmem,_,rfl,⟨b,c,T,v0,hβ.trans e1,e2,e3,e4,h6 v0 e5⟩,.inr ⟨id,_,h1,h3,fun b hb=>Blk.same hβ (.inl fun _ _ _ e=>by cases e) hb,fun v1=>⟨fun e=>⟨v,rfl,e⟩,fun ⟨_,_,e⟩=>e⟩⟩⟩
  ·obtain ⟨sz,xs,h3,rfl,rfl,h4⟩:=bW h2;obtain ⟨_,hk0,a0,cap,e1,e2,e3,e4,e5,e6⟩:=h.heap _ _ h3;refine ⟨h4,hmem,_,rfl,⟨hk0,a0,cap,hβ.trans e1,e2,e3,e4,e5,fun hc=>?_⟩,.inr ⟨id,_,h1,h3,fun b hb=>Blk.same hβ (.inl fun _ _ _ e=>by cases e) hb,fun v1=>⟨(fun e=>by cases e),(fun ⟨_,e,_⟩=>by cases e)⟩⟩⟩;obtain ⟨b,o,cur,T,f1,f2,f3,f4⟩:=e6 hc;refine ⟨b,o,cur,T,f1,f2,f3,fun i x j c hx hc'=>?_⟩;obtain ⟨u0,g1,g2,g3⟩:=f4 i x j c hx hc';exact ⟨u0,g1,g2.mono (fun _ _=>rfl) hokz,g3⟩
  ·split at h2
   ·rename_i es h3;obtain ⟨rfl,h4⟩:=h2;obtain ⟨_,hk0,r,ents,clock,e1,e2,e3,e4,e5⟩:=h.heap _ _ h3
    exact ⟨h4,hmem,_,rfl,⟨hk0,r,ents,clock,hβ.trans e1,e2,e3,fun i mm e hm he=>⟨(e4 i mm e hm he).1.mono (fun _ _=>rfl) hokz,(e4 i mm e hm he).2.mono (fun _ _=>rfl) hokz⟩,e5⟩,
     .inr ⟨id,_,h1,h3,fun b hb=>Blk.same hβ (.inl fun _ _ _ e=>by cases e) hb,fun v1=>⟨(fun e=>by cases e),(fun ⟨_,e,_⟩=>by cases e)⟩⟩⟩
   ·exact h2.elim
  ·rename_i sz' rs' out';obtain ⟨sz,rs,out,h3,rfl,rfl,h4⟩:=jr h2;obtain ⟨_,hk0,⟨a0,cap,e1,e2,e3,e4,e5⟩,hout⟩:=h.heap _ _ h3;have hq:p∧(∀ j,kS out' j=kS out j)∧(∀ j a',out'=some (j,a')→a'∈m.map (·.1)∧∃ a,out=some (j,a)∧kM β m a'=β a):=by
    split at h4
    ·split at h4
     ·exact ⟨h4,fun _=>rfl,fun j a' e=>by cases e⟩
     ·exact h4.elim
    ·split at h4
     ·exact h4.elim
     ·rename_i i' a' i a;obtain ⟨rfl,h5⟩:=h4;obtain ⟨o2,g1,g2⟩:=je h5;unfold oldId at g2;split at g2
      ·obtain ⟨g3,g4⟩:=ah g2;refine ⟨g4,fun _=>rfl,fun j x e=>?_⟩;cases e;refine ⟨List.mem_map.2 ⟨_,bG g1,rfl⟩,a,rfl,?_⟩;unfold kM;rw [g1,← Nat.eq_of_beq_eq_true g3]
      ·exact g2.elim
   obtain ⟨hp,hio,hre⟩:=hq;refine ⟨hp,hmem,_,rfl,⟨hk0,⟨a0,cap,hβ.trans e1,e2,e3,e4,fun hc=>?_⟩,fun j a' e=>(hre j a' e).1⟩,.inr ⟨id,_,h1,h3,fun b hb=>Blk.same hβ (.inr ⟨_,_,_,_,_,rfl,rfl,hio⟩) hb,fun v1=>⟨(fun e=>by cases e),(fun ⟨_,e,_⟩=>by cases e)⟩⟩⟩;obtain ⟨b,o,cur,T,f1,f2,f3,f4,f5⟩:=e5 hc;refine ⟨b,o,cur,T,f1,f2,f3,fun i xs hx=>?_,fun i j u u' c hi hj hio1 hio2=>f5 i j u u' c hi hj ((hio i) ▸ hio1) ((hio j) ▸ hio2)⟩;obtain ⟨u0,g1,g2,g3,g4⟩:=f4 i xs hx;refine ⟨u0,g1,g2,fun hi=>⟨(g3 ((hio i) ▸ hi)).1.mono (fun _ _=>rfl) hokz (fun _ _=>rfl),(g3 ((hio i) ▸ hi)).2⟩,fun a' e=>?_⟩;obtain ⟨_,a,e1,e2⟩:=hre i a' e;rw [e2];exact g4 a e1
  ·exact h2.elim
theorem Ht (h:RelB C β ok l.toS a w):∀ {hp:List (Key×Option Res)} {p:Prop},hpW l m fz hp p→p∧∀ k r,iG hp k=some r→k.1∈m.map (·.1)∧Own (kM β m) (fun i=>i∈m.map (·.1)) (okZ β ok fz) w k r ∧
   ((iH m k.1=some none∧∀ b,¬ Blk (kM β m) w k r b)∨∃ id r0,iH m k.1=some (some id)∧iG l.hp (id,k.2)=some r0∧(∀ b,Blk (kM β m) w k r b→Blk β w (id,k.2) r0 b)∧(∀ v,r = .cell v↔∃ v0,r0 = .cell v0∧r = .cell v))
 | [],p,hw=>⟨hw,fun k r hr=>by cases hr⟩
 | (k0,r0)::hp,p,hw=>by
   unfold hpW at hw;obtain ⟨h1,h2,r,h3,h4,h5⟩:=Ou h hw;obtain ⟨h6,h7⟩:=Ht h h1;refine ⟨h6,fun k r' hr=>?_⟩;unfold iG at hr;cases hb:FT k0 k with
   | true=>
     rw [hb] at hr;have e:=lZ.1 hb;subst e;simp only at hr;rw [h3] at hr;cases hr;exact ⟨h2,h4,h5⟩
   | false=>rw [hb] at hr;exact h7 k r' hr
theorem RelB.weak {l l':SL} (h:RelB C β ok l.toS a w) (hw:xH C.u0 m fz l l'):RelB C (kM β m) (okZ β ok fz) l'.toS a w:=by
 obtain ⟨h0,hw⟩:=DZ hw;obtain ⟨h1,hw⟩:=ah hw;obtain ⟨hlv,hw⟩:=kD hw;obtain ⟨h2,hu,hw⟩:=Hw hw;obtain ⟨hw,h3⟩:=ER h hw;obtain ⟨_,h4⟩:=Ht h hw;have hused:l'.toS.used=fun i=>i∈m.map (·.1):=by funext i;show (i∈l'.used)=_;rw [hu]
 have hren:∀ {i id:Nat},iH m i=some (some id)→kM β m i=β id:=fun h=>by unfold kM;rw [h]
 refine ⟨h.defers,h.Gp,fun t=>?_,fun k r hr=>?_,fun k r b hr hb=>?_,fun k k' r r' b hr hr' hb hb'=>?_,fun b hb=>?_,fun b hb => .inl (h.ok0 b hb),fun b hb=>?_,h.frame,fun i hi=>?_,h.glob.mono (fun _ _=>rfl) fun _ h => .inl h⟩
 ·rw [hused];exact h3 t
 ·rw [hused];exact ⟨(h4 k r hr).1,(h4 k r hr).2.1⟩
 ·obtain ⟨_,_,⟨_,hn⟩ | ⟨id,r0,g1,g2,g0,g3⟩⟩:=h4 k r hr
  ·exact absurd hb (hn b)
  ·replace hb:=g0 b hb
   obtain ⟨s1,s2,s3⟩:=h.sep (id,k.2) r0 b g2 hb;refine ⟨fun hc=>?_,s2,fun hlt=>?_⟩
   ·rcases hc with hc | ⟨i,hi,hc⟩
    ·exact s1 hc
    ·obtain ⟨sz,xs,hi2⟩:=h2 i hi;have:=h.inj (id,k.2) (i,0) r0 _ b g2 hi2 hb (.inl hc);simp only at this;subst this;exact Dh h1 k.1 id (bG ((jL (sJ hr rfl)).trans g1)) hi
   ·have:=s3 hlt;cases r with
    | cell v=>
      obtain ⟨v0,e,_⟩:=(g3 v).1 rfl;subst e;have hid:k.1=id:=by
       rcases hlv k.1 id (bG ((jL (sJ hr rfl)).trans g1)) with e | hno | ⟨sz,xs,ha⟩
       ·exact e
       ·exact absurd this.1 hno
       ·exfalso;obtain ⟨_,b1,c1,T1,v1,e1,_⟩:=h.heap _ _ g2;obtain ⟨_,_,a0,cap,f1,_⟩:=h.heap _ _ ha;simp only at e1 f1;rw [e1] at f1;cases f1
      exact ⟨by rw [hid];exact this.1,this.2⟩
    | arr sz xs=>
      cases r0 with
      | cell v0=>exact absurd rfl (fun (_:True=True)=>by
        obtain ⟨hh,ho⟩:=h.heap _ _ g2;obtain ⟨_,b1,c1,T1,v1,e1,_⟩:=(⟨hh,ho⟩:l.toS.used (id,k.2).1∧Own β l.toS.used ok w (id,k.2) (.cell v0));have hown:=(h4 k _ hr).2.1;obtain ⟨_,a0,cap,f1,_⟩:=hown;rw [hren g1] at f1;simp only at e1;rw [e1] at f1
        cases f1)
      | arr _ _=>exact this
      | map _=>exact this
      | rows _ _ _=>exact this
    | rows sz rs out=>
      cases r0 with
      | cell v0=>exact absurd rfl (fun (_:True=True)=>by
        obtain ⟨_,b1,c1,T1,v1,e1,_⟩:=h.heap _ _ g2;have hown:=(h4 k _ hr).2.1;obtain ⟨_,⟨a0,cap,f1,_⟩,_⟩:=hown;rw [hren g1] at f1;simp only at e1;rw [e1] at f1
        cases f1)
      | arr _ _=>exact this
      | map _=>exact this
      | rows _ _ _=>exact this
    | map es=>
      cases r0 with
      | cell v0=>exact absurd rfl (fun (_:True=True)=>by
        obtain ⟨_,b1,c1,T1,v1,e1,_⟩:=h.heap _ _ g2;have hown:=(h4 k _ hr).2.1;obtain ⟨_,rr,ents,clock,f1,_⟩:=hown;rw [hren g1] at f1;simp only at e1;rw [e1] at f1
        cases f1)
      | arr _ _=>exact this
      | map _=>exact this
      | rows _ _ _=>exact this
 ·obtain ⟨_,_,⟨_,hn⟩ | ⟨id,r0,g1,g2,g0,g3⟩⟩:=h4 k r hr
  ·exact absurd hb (hn b)
  ·obtain ⟨_,_,⟨_,hn'⟩ | ⟨id',r0',g1',g2',g0',g3'⟩⟩:=h4 k' r' hr'
   ·exact absurd hb' (hn' b)
   ·have:=h.inj (id,k.2) (id',k'.2) r0 r0' b g2 g2' (g0 b hb) (g0' b hb');simp only at this;subst this;have l1:=(jL (sJ hr rfl)).trans g1;have l2:=(jL (sJ hr' rfl)).trans g1';exact y9 h1 k.1 k'.1 id (bG l1) (bG l2) l1 l2
 ·rcases hb with hb | ⟨i,hi,hb⟩
  ·exact h.okb b hb
  ·obtain ⟨sz,xs,hi2⟩:=h2 i hi;exact (h.sep (i,0) _ b hi2 (.inl hb)).2.1
 ·rcases hb with hb | ⟨i,hi,hb⟩
  ·exact h.okn b hb
  ·obtain ⟨sz,xs,hi2⟩:=h2 i hi;have:=(h.sep (i,0) _ b hi2 (.inl hb)).2.2;rcases Nat.lt_or_ge b C.w0.heap.size with hlt | hge
   ·exact .inr (.inr (this hlt))
   ·exact .inr (.inl hge)
 ·have:=h0 i hi;exact ⟨by rw [hused];exact List.mem_map.2 ⟨_,bG this,rfl⟩,(hren this).trans (h.keep i hi).2⟩
theorem Rel.weak {l l':SL} (h:Rel C l.toS a w) (hw:xH C.u0 m fz l l'):Rel C l'.toS a w:=by
 obtain ⟨β,ok,h⟩:=h;exact ⟨_,_,h.weak hw⟩
end
section
variable {P:Program} {T:Nat→TE} {C:Ctx} {Q:Exit→SL→Prop} {l:SL}
theorem WP.weak {c:Code} {l':SL} (m:Ren) (fz:List Nat) (hw:xH C.u0 m fz l l') (h:WP P C c Q l'):WP P C c Q l:=
 fun hok a w hr=>h hok a w (hr.weak hw)
def aag (l:SL) (id m:Nat) (K:SL→Prop):Prop:=
 qF (iG l.hp (id,0)) fun sz rs out=>match out with
  | none=>False
  | some (i,m')=>aP (Nat.beq m' m) (i<rs.length∧jw (iG l.hp (m,0)) fun sz2 xs=>aP (Nat.beq sz sz2) (l.xB none .any [((id,0),some (.rows sz (rs.set i xs) none)),((m,0),none)] [] K))
theorem WP.back {c:Code} (id m:Nat) (h:aag l id m fun l'=>WP P C c Q l'):WP P C c Q l:=by
 intro hok a w hr;obtain ⟨sz,rs,out,h1,h2⟩:=jr h;split at h2
 ·exact h2.elim
 ·rename_i i m';obtain ⟨hm,hi,h3⟩:=ah h2;obtain rfl:=Nat.eq_of_beq_eq_true hm;obtain ⟨sz2,xs,h4,h5⟩:=bW h3;obtain ⟨hs,h6⟩:=ah h5;obtain rfl:=Nat.eq_of_beq_eq_true hs;obtain ⟨β,ok,hr⟩:=hr;obtain ⟨l',h7,e⟩:=um h6;exact h7 hok a w ⟨β,ok,e ▸ hr.WS h1 hi h4⟩
theorem WP.loop {α:Type} (st:α→SL) (I:α→Prop) (μ:α→Nat) {c:Code} (x0:α) (m0:Ren) (fz0:List Nat) (hw:xH C.u0 m0 fz0 l (st x0)) (h0:I x0)
  (round:∀ x,I x→WP P C c (Qc (fun l'=>∃ y m fz,xH C.u0 m fz l' (st y)∧I y∧μ y<μ x) Q) (st x)):WP P C (.loop c) Q l:=by
 intro hok act w hr;have hr0:=hr.weak hw;intro b k cs;have key:∀ n x,μ x=n→I x→∀ act w,Rel C (st x).toS act w →
   ∃ e a' w',(∃ l',Rel C l'.toS a' w'∧Q e l')∧Arrives P (lone (b.at act (.code c :: .inLoop c::k)) cs w) b k cs e a' w':=by
  intro n
  induction n using Nat.strongRecOn with
  | _ n ih=>
    intro x hn hI act w hr;obtain ⟨e,a₁,w₁,⟨l',hr',hq⟩,harr⟩:=round x hI hok act w hr b (.inLoop c::k) cs;cases e with
    | normal=>
      obtain ⟨y,m,fz,hw',hI',hlt⟩:=hq;obtain ⟨e₂,a₂,w₂,hq₂,harr₂⟩:=ih (μ y) (hn ▸ hlt) y rfl hI' a₁ w₁ (hr'.weak hw');exact ⟨e₂,a₂,w₂,hq₂,.of_steps (Steps.trans harr (.one step_inLoop)) harr₂⟩
    | exit id=>exact ⟨_,a₁,w₁,⟨l',hr',hq⟩,.pass (x := .inLoop c) rfl (fun _ _ => .inl (by simp)) harr⟩
    | goto l=>exact ⟨_,a₁,w₁,⟨l',hr',hq⟩,.pass (x := .inLoop c) rfl (fun _ _ => .inl (by simp)) harr⟩
    | ret=>exact ⟨_,a₁,w₁,⟨l',hr',hq⟩,.pass (x := .inLoop c) rfl (fun _ _ => .inl (by simp)) harr⟩
    | panic ch=>exact ⟨_,a₁,w₁,⟨l',hr',hq⟩,.pass (x := .inLoop c) rfl (fun _ _ => .inl (by simp)) harr⟩
    | outgrown=>exact ⟨_,a₁,w₁,⟨l',hr',hq⟩,.pass (x := .inLoop c) rfl (fun _ _ => .inl (by simp)) harr⟩
 obtain ⟨e,a',w',hq,harr⟩:=key _ x0 rfl h0 act w hr0;exact ⟨e,a',w',hq,.of_steps (.one step_loop) harr⟩
def nD (T:Nat→TE) (l:SL):List ResultVar→(List D→Prop)→Prop
 | [],K=>K []
 | .tmp t::rs,K=>vV l.env t fun v=>V9 v (iG l.hp) fun d _=>nD T l rs fun ds=>K (d::ds)
 | .cell x t::rs,K=>vV l.env x fun v=>zN (T t) [v] (iG l.hp) fun y _ _ _=>V9 y (iG l.hp) fun d _=>nD T l rs fun ds=>K (d::ds)
def aak (T:Nat→TE) (rs:List ResultVar) (ds:List D):Exit→SL→Prop
 | .ret,l=>nD T l rs fun ds'=>ds'=ds
 | .normal,l=>nD T l rs fun ds'=>ds'=ds
 | _,_=>False
theorem Ag {t:Nat} {vx v:Value} {w:World} (h:(Instr.loadAt t vx).run P w = .ok v w):(do loadVar t (← asAddr vx)).run P w = .ok v w:=by
 cases vx with
 | pointer a=>cases a with
   | none=>simp [Instr.loadAt,Instr.sureAddr] at h
   | some a=>simpa [Instr.loadAt,Instr.sureAddr,asAddr] using h
 | _=>simp [Instr.loadAt,Instr.sureAddr] at h
def Je (tmps:Array Value):ResultVar→Sem Value
 | .tmp t=>pure (tmps.getD t undef)
 | .cell a t=>do loadVar t (← asAddr (tmps.getD a undef))
theorem Oq (fn:Func) (tmps:Array Value):results fn tmps=(do let vs ← fn.results.mapM (Je tmps);pure (if h:vs.size=1 then vs[0] else .tuple vs)):=by
 unfold results;congr 1
theorem ou (hT:TOK P T) {β:Nat→Value} {ok:Nat→Prop} {a:Act} {w:World} (h:RelB C β ok l.toS a w) {ok':Nat→Prop} (hok:∀ b,ok b→ok' b) (hown:∀ k r b,iG l.hp k=some r→Blk β w k r b→ok' b) :
  ∀ {rs:List ResultVar} {K:List D→Prop},nD T l rs K→∃ ds,K ds∧ds.length=rs.length∧∃ vs:List Value,
    (rs.mapM (Je a.tmps)).run P w = .ok vs w∧vs.length=rs.length ∧
    ∀ (i:Nat) v d,vs[i]?=some v→ds[i]?=some d→RdD ok' w v d
 | [],K,hK=>⟨[],hK,rfl,[],by simp,rfl,fun i v d hv=>by simp at hv⟩
 | .tmp t::rs,K,hK=>by
   unfold nD at hK;rw [jh] at hK;obtain ⟨d,rd,h1,h2⟩:=zW hK;obtain ⟨ds,h3,h4,vs,h5,h6,h7⟩:=ou hT h hok hown h1;have hd:RdD ok' w (a.tmps.getD t undef) d:=h2 β l.toS.used ok ok' w _ (h.env t) (fun k hk r hr=>⟨(h.heap k r hr).2,fun b hb=>hown k r b hr hb⟩) hok;refine ⟨d::ds,h3,by simp [h4],a.tmps.getD t undef::vs,?_,by simp [h6],fun i v d' hv hd'=>?_⟩
   ·rw [List.mapM_cons];simp only [Je,Sem.run_bind,Sem.run_pure,Result.andThen_ok,h5]
   ·cases i with
    | zero=>simp at hv hd';subst hd';rw [← hv];simpa using hd
    | succ i=>exact h7 i v d' (by simpa using hv) (by simpa using hd')
 | .cell x t::rs,K,hK=>by
   unfold nD at hK;rw [jh] at hK;obtain ⟨v0,y,rd,e0,hK1,hrun⟩:=xg hT hK;simp only [List.cons.injEq,and_true] at e0;obtain ⟨d,rd',h1,h2⟩:=zW hK1;obtain ⟨ds,h3,h4,vs,h5,h6,h7⟩:=ou hT h hok hown h1;obtain ⟨v,f1,f2⟩:=hrun β l.toS.used ok w (a.tmps.getD x undef) (by rw [← e0];exact h.env x) (fun k hk r hr=>(h.heap k r hr).2);have hd:RdD ok' w v d:=h2 β l.toS.used ok ok' w _ f2 (fun k hk r hr=>⟨(h.heap k r hr).2,fun b hb=>hown k r b hr hb⟩) hok;refine ⟨d::ds,h3,by simp [h4],v::vs,?_,by simp [h6],fun i v' d' hv hd'=>?_⟩
   ·rw [List.mapM_cons];have:=Ag f1;simp only [Je,Sem.run_bind] at this ⊢;rw [this];simp only [Result.andThen_ok,h5,Sem.run_pure]
   ·cases i with
    | zero=>simp at hv hd';subst hd';rw [← hv];exact hd
    | succ i=>exact h7 i v' d' (by simpa using hv) (by simpa using hd')
def ES:Nat→List D→List (Nat×V)
 | _,[]=>[]
 | k,d::ds=>(k,.d d)::ES (k+1) ds
theorem Em:∀ (ds:List D) (k t:Nat),pU (ES k ds) t=if k≤t then (match ds[t-k]? with | some d => .d d | none => .any) else .any
 | [],k,t=>by simp [ES,pU]
 | d::ds,k,t=>by
   unfold ES pU;cases h:Nat.beq k t with
   | true=>rw [← Nat.eq_of_beq_eq_true h];simp
   | false=>
     have hne:k≠t:=fun e=>by rw [e,Nat.beq_refl] at h;cases h
     simp only;rw [Em ds (k+1) t];by_cases hkt:k≤t
     ·rw [if_pos (by omega),if_pos hkt,show t-k=(t-(k+1))+1 by omega];simp
     ·rw [if_neg (by omega),if_neg hkt]
theorem Am {fn:Func} {a:Act} {w:World} {vs:List Value} (h:(fn.results.toList.mapM (Je a.tmps)).run P w = .ok vs w) :
  (results fn a.tmps).run P w = .ok (match vs with | [v]=>v | vs => .tuple vs.toArray) w:=by
 rw [Oq,Sem.run_bind];have:(fn.results.mapM (Je a.tmps)).run P w = .ok vs.toArray w:=by
  rw [Array.mapM_eq_mapM_toList];simp only [Sem.run_map,h,Result.andThen_ok]
 rw [this];simp only [Result.andThen_ok,Sem.run_pure]
 match vs with
 | []=>rfl
 | [v]=>rfl
 | v::u::r=>simp
theorem Pure.of_wp (hT:TOK P T) {f:FuncId} {fn:Func} {c:Code} {nt:Nat} {ds rs:List D} (hf:P.funcs[f]?=some fn) (hb:fn.body=some c) (hname:(fn.name == "runtime.NumGoroutine")=false) (hnt:fn.ntmps=nt) (hle:Nat.ble ds.length nt=true) (hok:codeOk nt c=true)
  (h:∀ w0 ok0 β0,WP P ⟨w0,ok0,fun _ _=>False,nt,β0,[]⟩ c (aak T fn.results.toList rs) ⟨ES 0 ds,[],[]⟩):Pure P f ds rs:=by
 refine ⟨⟨fn,hf,hname,by rw [hb];rfl⟩,fun ok w vs hgl hokb hsz hrd=>calls_of_wp hf hb ?_⟩;have hle':ds.length≤nt:=Nat.le_of_ble_eq_true hle
 let C:Ctx:=⟨w,ok,fun _ _=>False,nt,fun _=>undef,[]⟩
 have hrel:Rel C (SL.toS ⟨ES 0 ds,[],[]⟩) { tmps:=vs++Array.replicate (fn.ntmps-vs.size) undef,defers:=[] } w:=by
  refine ⟨fun _=>undef,ok,rfl,?_,fun t=>?_,fun k r hr=>(by cases hr),fun k r b hr=>(by cases hr),fun k k' r r' b hr=>(by cases hr),hokb,fun b hb=>hb,fun b hb => .inl hb,Frame.refl _ _,fun i hi=>(by cases hi),hgl⟩
  ·show (vs++Array.replicate (fn.ntmps-vs.size) undef).size=nt;simp [hsz,hnt];omega
  ·show RdV _ _ _ _ _ (pU (ES 0 ds) t);rw [Em];simp only [Nat.zero_le,if_true,Nat.sub_zero];cases hd:ds[t]? with
   | none=>exact .any _
   | some d=>
     have ht:t<vs.size:=(by rw [hsz];exact (List.getElem?_eq_some_iff.1 hd).1);have hv:vs[t]?=some vs[t]:=(by simp [ht]);have e:(vs++Array.replicate (fn.ntmps-vs.size) undef).getD t undef=vs[t]:=by
      simp [Array.getElem?_append_left ht,ht]
     rw [e];exact .d _ _ (hrd t _ d hv hd)
 refine wp_mono (h w ok (fun _=>undef) hok _ w hrel) ?_;have fin:∀ (l':SL) (a':Act) (w':World),Rel C l'.toS a' w'→(nD T l' fn.results.toList fun ds'=>ds'=rs)→a'.defers=[]∧∃ v,(results fn a'.tmps).run P w' = .ok v w' ∧
   ∃ v',Ending.returned v = .returned v'∧Frame (fun _ _=>False) w w'∧NS (fun b=>ok b∨(w.heap.size≤b∧b<w'.heap.size)) w' v' rs:=fun l' a' w' ⟨β,ok',hr⟩ hq=>by
  obtain ⟨ds',h1,h2,vs',h3,h4,h5⟩:=ou hT hr (ok':=fun b=>ok b∨(w.heap.size≤b∧b<w'.heap.size)) (fun b hb=>by
   rcases hr.okn b hb with h' | h' | h'
   ·exact .inl h'
   ·exact .inr ⟨h',hr.okb b hb⟩
   ·exact (h' 0).elim) (fun k r b hr' hb'=>by
   obtain ⟨_,s2,s3⟩:=hr.sep k r b hr' hb';refine .inr ⟨?_,s2⟩;rcases Nat.lt_or_ge b w.heap.size with hlt | hge
   ·have:=s3 hlt;cases r with
    | cell _=>exact this.2.elim
    | arr _ _=>exact (this 0).elim
    | map _=>exact (this 0).elim
    | rows _ _ _=>exact (this 0).elim
   ·exact hge) hq
  subst h1;refine ⟨hr.defers,_,Am h3,_,rfl,hr.frame,?_⟩
  match ds',vs',h2,h4,h5 with
  | [],[],_,_,h5=>exact ⟨#[],rfl,rfl,fun i u r hu=>by simp at hu⟩
  | [d],[v],_,_,h5=>exact h5 0 v d rfl rfl
  | d::d2::dr,v::v2::vr,h2,h4,h5=>exact ⟨_,rfl,(by simp at h2 h4 ⊢;omega),fun i u r hu hr'=>h5 i u r (by simpa using hu) hr'⟩
  | [],v::vr,h2,h4,_=>simp at h2 h4;omega
  | [d],[],h2,h4,_=>simp at h2 h4;omega
  | [d],v::v2::vr,h2,h4,_=>simp at h2 h4;omega
  | d::d2::dr,[],h2,h4,_=>simp at h2 h4;omega
  | d::d2::dr,[v],h2,h4,_=>simp at h2 h4;omega
 rintro e a' w' ⟨l',hr,hq⟩;cases e with
 | normal=>exact fin l' a' w' hr hq
 | ret=>exact fin l' a' w' hr hq
 | exit id=>exact hq.elim
 | goto l=>exact hq.elim
 | panic ch=>exact hq.elim
 | outgrown=>exact hq.elim
end
section
variable {P:Program} {T:Nat→TE} {C:Ctx} {Q:Exit→SL→Prop} {l:SL}
def Ak (T:Nat→TE) (l:SL):List ResultVar→(List V→Prop)→Prop
 | [],K=>K []
 | .tmp t::rs,K=>vV l.env t fun v=>Ak T l rs fun vs=>K (v::vs)
 | .cell x t::rs,K=>vV l.env x fun v=>zN (T t) [v] (iG l.hp) fun y _ _ _=>Ak T l rs fun vs=>K (y::vs)
def enum:Nat→List V→List (Nat×V)
 | _,[]=>[]
 | k,v::vs=>(k,v)::enum (k+1) vs
def lU:List (Key×Res)→List (Key×Option Res)
 | []=>[]
 | (k,r)::l=>(k,some r)::lU l
def aal (T:Nat→TE) (U:List Nat) (rs:List ResultVar) (news:List Nat) (xs:List V) (post:List (Key×Res)):Exit→SL→Prop
 | .ret,l=>Ak T l rs fun vs=>∃ m fz,xH U m fz ⟨enum 0 vs,l.hp,l.used⟩ ⟨enum 0 xs,lU post,U++news⟩∧vs.length=xs.length
 | .normal,l=>Ak T l rs fun vs=>∃ m fz,xH U m fz ⟨enum 0 vs,l.hp,l.used⟩ ⟨enum 0 xs,lU post,U++news⟩∧vs.length=xs.length
 | _,_=>False
theorem uP:∀ (vs:List V) (k t:Nat),pU (enum k vs) t=if k≤t then (match vs[t-k]? with | some d=>d | none => .any) else .any
 | [],k,t=>by simp [enum,pU]
 | d::ds,k,t=>by
   unfold enum pU;cases h:Nat.beq k t with
   | true=>rw [← Nat.eq_of_beq_eq_true h];simp
   | false=>
     have hne:k≠t:=fun e=>by rw [e,Nat.beq_refl] at h;cases h
     simp only;rw [uP ds (k+1) t];by_cases hkt:k≤t
     ·rw [if_pos (by omega),if_pos hkt,show t-k=(t-(k+1))+1 by omega];simp
     ·rw [if_neg (by omega),if_neg hkt]
theorem G9 {k:Key} {r:Option Res}:∀ {l:List (Key×Res)},(k,r)∈lU l↔∃ r0,(k,r0)∈l∧r=some r0
 | []=>by simp [lU]
 | (k1,r1)::l=>by
   simp only [lU,List.mem_cons,Prod.mk.injEq,G9 (l:=l)];constructor
   ·rintro (⟨rfl,rfl⟩ | ⟨r0,h1,h2⟩)
    ·exact ⟨r1,.inl ⟨rfl,rfl⟩,rfl⟩
    ·exact ⟨r0,.inr h1,h2⟩
   ·rintro ⟨r0,⟨rfl,rfl⟩ | h1,h2⟩
    ·exact .inl ⟨rfl,h2⟩
    ·exact .inr ⟨r0,h1,h2⟩
theorem ML {k:Key} {r:Res}:∀ {l:List (Key×Option Res)},iG l k=some r→(k,some r)∈l
 | [],h=>by cases h
 | (k1,r1)::l,h=>by
   unfold iG at h;cases hb:FT k1 k with
   | true=>rw [hb] at h;simp only at h;rw [lZ.1 hb,h];exact List.mem_cons_self
   | false=>rw [hb] at h;exact List.mem_cons_of_mem _ (ML h)
def Jo:List (Key×Res)→Bool
 | []=>true
 | (k,_)::l=>l.all (fun e=>!FT k e.1)&&Jo l
theorem Ej {k:Key} {r:Res}:∀ {l:List (Key×Res)},Jo l=true→(k,r)∈l→iG (lU l) k=some r
 | [],_,h=>by cases h
 | (k1,r1)::l,hn,h=>by
   simp only [Jo,Bool.and_eq_true] at hn;unfold lU iG;rcases List.mem_cons.1 h with h | h
   ·cases h;rw [lZ.2 rfl]
   ·have:=List.all_eq_true.1 hn.1 _ h;simp only [Bool.not_eq_true'] at this;rw [this];exact Ej hn.2 h
theorem rP (hT:TOK P T) {β:Nat→Value} {ok:Nat→Prop} {a:Act} {w:World} (h:RelB C β ok l.toS a w):∀ {rs:List ResultVar} {K:List V→Prop},Ak T l rs K→∃ vs,K vs∧∃ us:List Value,
  (rs.mapM (Je a.tmps)).run P w = .ok us w∧us.length=vs.length∧∀ (i:Nat) u v,us[i]?=some u→vs[i]?=some v→RdV β l.toS.used ok w u v
 | [],K,hK=>⟨[],hK,[],by simp,rfl,fun i v d hv=>by simp at hv⟩
 | .tmp t::rs,K,hK=>by
   unfold Ak at hK;rw [jh] at hK;obtain ⟨vs,h3,us,h5,h6,h7⟩:=rP hT h hK;refine ⟨_,h3,a.tmps.getD t undef::us,?_,by simp [h6],fun i u v hu hv=>?_⟩
   ·rw [List.mapM_cons];simp only [Je,Sem.run_bind,Sem.run_pure,Result.andThen_ok,h5]
   ·cases i with
    | zero=>simp at hu hv;subst hv;rw [← hu];have:=h.env t;show RdV _ _ _ _ _ (l.toS.env t);simpa using this
    | succ i=>exact h7 i u v (by simpa using hu) (by simpa using hv)
 | .cell x t::rs,K,hK=>by
   unfold Ak at hK;rw [jh] at hK;obtain ⟨v0,y,rd,e0,hK1,hrun⟩:=xg hT hK;simp only [List.cons.injEq,and_true] at e0;obtain ⟨vs,h3,us,h5,h6,h7⟩:=rP hT h hK1;obtain ⟨v,f1,f2⟩:=hrun β l.toS.used ok w (a.tmps.getD x undef) (by rw [← e0];exact h.env x) (fun k hk r hr=>(h.heap k r hr).2);refine ⟨_,h3,v::us,?_,by simp [h6],fun i u v' hu hv=>?_⟩
   ·rw [List.mapM_cons];have:=Ag f1;simp only [Je,Sem.run_bind] at this ⊢;rw [this];simp only [Result.andThen_ok,h5,Sem.run_pure]
   ·cases i with
    | zero=>simp at hu hv;subst hv;rw [← hu];exact f2
    | succ i=>exact h7 i u v' (by simpa using hu) (by simpa using hv)
theorem aH.of_wp (hT:TOK P T) {f:FuncId} {fn:Func} {c:Code} {nt:Nat} {U:List Nat} {as:List V} {pre:List (Key×Res)} {news:List Nat} {xs:List V} {post:List (Key×Res)}
  (hf:P.funcs[f]?=some fn) (hb:fn.body=some c) (hname:(fn.name == "runtime.NumGoroutine")=false) (hnt:fn.ntmps=nt) (hle:Nat.ble as.length nt=true) (hok:codeOk nt c=true) (hnd:Jo post=true) (hpl:(pre++post).all (fun e=>qm e.2)=true)
  (h:∀ w0 ok0 wr β0,WP P ⟨w0,ok0,wr,nt,β0,U⟩ c (aal T U fn.results.toList news xs post) ⟨enum 0 as,lU pre,U⟩):aH P f U as pre news xs post:=by
 have hpl1:∀ k r,(k,r)∈pre→qm r=true:=fun k r h=>List.all_eq_true.1 hpl (k,r) (List.mem_append_left _ h)
 have hpl2:∀ k r,(k,r)∈post→qm r=true:=fun k r h=>List.all_eq_true.1 hpl (k,r) (List.mem_append_right _ h)
 refine ⟨⟨fn,hf,hname,by rw [hb];rfl⟩,hpl2,fun β ok w vs hgl hokb hsz hrd hpre hsep hinj=>calls_of_wp hf hb ?_⟩;have hle':as.length≤nt:=Nat.le_of_ble_eq_true hle
 let C:Ctx:=⟨w,ok,jV β pre,nt,β,U⟩
 have hm:∀ k r,iG (lU pre) k=some r→(k,r)∈pre:=fun k r hk=>by
  obtain ⟨r0,h1,h2⟩:=G9.1 (ML hk);cases h2;exact h1
 have hrel:Rel C (SL.toS ⟨enum 0 as,lU pre,U⟩) { tmps:=vs++Array.replicate (fn.ntmps-vs.size) undef,defers:=[] } w:=by
  refine ⟨β,ok,rfl,?_,fun t=>?_,fun k r hr=>hpre k r (hm k r hr),fun k r b hr hb=>?_,fun k k' r r' b hr hr' hb hb'=>hinj k k' r r' b (hm k r hr) (hm k' r' hr') (Blk.plain (hpl1 _ _ (hm k r hr)) hb) (Blk.plain (hpl1 _ _ (hm k' r' hr')) hb'),hokb,fun b hb=>hb,fun b hb => .inl hb,Frame.refl _ _,fun i hi=>⟨hi,rfl⟩,hgl⟩
  ·show (vs++Array.replicate (fn.ntmps-vs.size) undef).size=nt;simp [hsz,hnt];omega
  ·show RdV _ _ _ _ _ (pU (enum 0 as) t);rw [uP];simp only [Nat.zero_le,if_true,Nat.sub_zero];cases hd:as[t]? with
   | none=>exact .any _
   | some d=>
     have ht:t<vs.size:=(by rw [hsz];exact (List.getElem?_eq_some_iff.1 hd).1);have hv:vs[t]?=some vs[t]:=(by simp [ht]);have e:(vs++Array.replicate (fn.ntmps-vs.size) undef).getD t undef=vs[t]:=by
      simp [Array.getElem?_append_left ht,ht]
     rw [e];exact hrd t _ d hv hd
  ·replace hb:=Blk.plain (hpl1 _ _ (hm k r hr)) hb
   obtain ⟨s1,s2⟩:=hsep k r b (hm k r hr) hb;refine ⟨s1,s2,fun _=>?_⟩;cases r with
   | cell v=>exact ⟨(hpre _ _ (hm k _ hr)).1,k,_,hm k _ hr,hb,rfl⟩
   | arr sz ys=>exact fun o=>⟨k,_,hm k _ hr,hb,trivial⟩
   | map es=>exact fun o=>⟨k,_,hm k _ hr,hb,trivial⟩
   | rows sz rs out=>exact fun o=>⟨k,_,hm k _ hr,hb,trivial⟩
 refine wp_mono (h w ok (jV β pre) β hok _ w hrel) ?_;have fin:∀ (l':SL) (a':Act) (w':World),Rel C l'.toS a' w'→(Ak T l' fn.results.toList fun vs=>∃ m fz,xH U m fz ⟨enum 0 vs,l'.hp,l'.used⟩ ⟨enum 0 xs,lU post,U++news⟩∧vs.length=xs.length) →
   a'.defers=[]∧∃ v,(results fn a'.tmps).run P w' = .ok v w'∧∃ v' β' ok',Ending.returned v = .returned v'∧(∀ i,i∈U→β' i=β i)∧RdV β' (fun i=>i∈U∨i∈news) ok' w' v' (resV xs) ∧
   (∀ k r,(k,r)∈post→(k.1∈U∨k.1∈news)∧Own β' (fun i=>i∈U∨i∈news) ok' w' k r) ∧
   (∀ k r b,(k,r)∈post→aB (β' k.1)=some b→¬ ok' b∧b<w'.heap.size∧(b<w.heap.size→match r with | .cell _=>k.1∈U∧jV β pre b k.2 | _=>∀ o,jV β pre b o)) ∧
   (∀ k k' r r' b,(k,r)∈post→(k',r')∈post→aB (β' k.1)=some b→aB (β' k'.1)=some b→k.1=k'.1) ∧
   (∀ b,ok' b→b<w'.heap.size)∧(∀ b,ok b→ok' b)∧(∀ b,ok' b→ok b∨w.heap.size≤b∨∀ o,jV β pre b o)∧Frame (jV β pre) w w':=fun l' a' w' ⟨β1,ok1,hr⟩ hq=>by
  obtain ⟨vs',⟨m,fz,hw,hlen⟩,us,h3,h4,h5⟩:=rP hT hr hq;have hr2:RelB { C with nt:=us.length } β1 ok1 (SL.toS ⟨enum 0 vs',l'.hp,l'.used⟩) ⟨us.toArray,[]⟩ w':=by
   refine ⟨rfl,by simp,fun t=>?_,hr.heap,hr.sep,hr.inj,hr.okb,hr.ok0,hr.okn,hr.frame,hr.keep,hr.glob⟩;show RdV _ _ _ _ _ (pU (enum 0 vs') t);rw [uP];simp only [Nat.zero_le,if_true,Nat.sub_zero];cases hd:vs'[t]? with
   | none=>exact .any _
   | some d=>
     have ht:t<us.length:=(by rw [h4];exact (List.getElem?_eq_some_iff.1 hd).1);have hu:us[t]?=some us[t]:=(by simp);have e:(us.toArray).getD t undef=us[t]:=(by simp [ht]);show RdV _ _ _ _ (us.toArray.getD t undef) _;rw [e];exact h5 t _ d hu hd
  have hr3:=hr2.weak hw;have hU:(SL.toS ⟨enum 0 xs,lU post,U++news⟩).used=fun i=>i∈U∨i∈news:=by funext i;exact propext List.mem_append
  have hpost:∀ k r,(k,r)∈post→(SL.toS ⟨enum 0 xs,lU post,U++news⟩).hp k=some r:=fun k r hk=>Ej hnd hk
  refine ⟨hr.defers,_,Am h3,_,_,_,rfl,fun i hi=>(hr3.keep i hi).2,?_,fun k r hk=>?_,fun k r b hk hb=>?_,fun k k' r r' b hk hk' hb hb'=>hr3.inj k k' r r' b (hpost k r hk) (hpost k' r' hk') (.inl hb) (.inl hb'),hr3.okb,hr3.ok0,hr3.okn,hr3.frame⟩
  ·have hval:∀ (i:Nat) u x,us[i]?=some u→xs[i]?=some x→RdV _ (fun i=>i∈U∨i∈news) _ w' u x:=fun i u x hu hx=>by
    have:=hr3.env i;rw [hU] at this;have e2:(SL.toS ⟨enum 0 xs,lU post,U++news⟩).env i=x:=by
     show pU (enum 0 xs) i=x;rw [uP];simp [hx]
    rw [e2] at this;have e3:({ tmps:=us.toArray,defers:=[] }:Act).tmps.getD i undef=u:=(by simp [hu]);rw [e3] at this;exact this
   match us,xs,(h4.trans hlen:us.length=xs.length),hval with
   | [],[],_,_=>exact .tuple #[] _ rfl (fun i v c hv=>by simp at hv)
   | [u],[x],_,hval=>exact hval 0 u x rfl rfl
   | u::u2::ur,x::x2::xr,hl,hval=>exact .tuple _ _ (by simpa using hl) (fun i v c hv hc=>hval i v c (by simpa using hv) hc)
   | [],x::xr,hl,_=>simp at hl
   | [u],[],hl,_=>simp at hl
   | [u],x::x2::xr,hl,_=>simp at hl
   | u::u2::ur,[],hl,_=>simp at hl
   | u::u2::ur,[x],hl,_=>simp at hl
  ·have:=hr3.heap k r (hpost k r hk);rw [hU] at this;exact this
  ·have:=hr3.sep k r b (hpost k r hk) (.inl hb);refine ⟨this.1,this.2.1,fun hlt=>?_⟩;have h3:=this.2.2 hlt;cases r with
   | cell v=>exact h3
   | arr sz ys=>exact h3
   | map es=>exact h3
   | rows sz rs out=>exact absurd (hpl2 _ _ hk) (by simp [qm])
 rintro e a' w' ⟨l',hr,hq⟩;cases e with
 | normal=>exact fin l' a' w' hr hq
 | ret=>exact fin l' a' w' hr hq
 | exit id=>exact hq.elim
 | goto l=>exact hq.elim
 | panic ch=>exact hq.elim
 | outgrown=>exact hq.elim
end
inductive Tr where
 | nil
 | leaf (t:Nat) (e:TE)
 | node (m:Nat) (l r:Tr)
def Tr.look:Tr→Nat→TE
 | .nil,_=>⟨.none,0,0,.tuple #[],[]⟩
 | .leaf t e,x=>match Nat.beq t x with | true=>e | false=>⟨.none,0,0,.tuple #[],[]⟩
 | .node m l r,x=>match Nat.blt x m with | true=>l.look x | false=>r.look x
def Tr.leaves:Tr→List (Nat×TE)
 | .nil=>[]
 | .leaf t e=>[(t,e)]
 | .node _ l r=>l.leaves++r.leaves
theorem Tr.zu (x:Nat):∀ t:Tr,(t.look x).k = .none∨(x,t.look x)∈t.leaves
 | .nil => .inl rfl
 | .leaf t e=>by
   unfold Tr.look;cases h:Nat.beq t x with
   | true=>right;rw [← Nat.eq_of_beq_eq_true h];exact List.mem_cons_self
   | false=>exact .inl rfl
 | .node m l r=>by
   unfold Tr.look;cases h:Nat.blt x m with
   | true=>exact (Tr.zu x l).imp id (fun h=>List.mem_append_left _ h)
   | false=>exact (Tr.zu x r).imp id (fun h=>List.mem_append_right _ h)
def TE.bare (e:TE):TE:={ e with ks:=[] }
def Jw (P:Program) (x:Nat×TE):List SK:=match x.2.ks with | []=>[] | _=>Xv P x.1
theorem Tr.tok {P:Program} {t:Tr} (h:t.leaves.map (fun x=>(x.2.bare,x.2.ks))=t.leaves.map (fun x=>(Ry P x.1,Jw P x))):TOK P t.look:=fun x=>by
 rcases Tr.zu x t with h' | h'
 ·exact .inl h'
 ·right;have:∀ (l:List (Nat×TE)),l.map (fun x=>(x.2.bare,x.2.ks))=l.map (fun x=>(Ry P x.1,Jw P x))→∀ e,(x,e)∈l→e.bare=Ry P x∧(e.ks=[]∨e.ks=Xv P x):=by
   intro l
   induction l with
   | nil=>intro _ e he;cases he
   | cons y l ih=>
     intro hl e he;simp only [List.map_cons,List.cons.injEq,Prod.mk.injEq] at hl;rcases List.mem_cons.1 he with he | he
     ·rw [← he] at hl;refine ⟨hl.1.1,?_⟩;have:=hl.1.2;unfold Jw at this;cases hk:e.ks with
      | nil=>exact .inl rfl
      | cons k ks=>right;simp only [hk] at this;exact this
     ·exact ih hl.2 e he
  exact this _ h _ h'
end Go.Abs
