/- Rows of rows of the call's own: made, a row handed out, a row put in. -/
import Derived.Test.YtbhfbliodeagmaaGreatDoorAbsJAnd
import Derived.Test.YtbhfbliodeagmaaGreatDoorAbsO4One
import Derived.Still
set_option linter.all false
namespace Go.Abs
open Go Go.RowKit
def sJ (r:Option Res) (K:Nat→List (List D)→Option (Nat×Nat)→Prop):Prop:=match r with | some (.rows sz rs out)=>K sz rs out | _=>False
theorem kJ {r:Option Res} {K:Nat→List (List D)→Option (Nat×Nat)→Prop} (h:sJ r K):∃ sz rs out,r=some (.rows sz rs out)∧K sz rs out:=by
 unfold sJ at h;split at h
 ·exact ⟨_,_,_,rfl,h⟩
 ·exact h.elim
section
variable {C:Ctx} {β:Nat→Value} {ok:Nat→Prop} {s:S} {a:Act} {w:World}
end
section
variable {P:Program} {T:Nat→TE}
end
def NZ (ok:Nat→Prop) (w:World) (v:Value):List D→Prop
 | [r]=>RdD ok w v r
 | rs=>∃ vs:Array Value,v = .tuple vs∧vs.size=rs.length∧∀ (i:Nat) u r,vs[i]?=some u→rs[i]?=some r→RdD ok w u r
structure Pure (P:Program) (f:FuncId) (ds rs:List D):Prop where
 there:∃ fn,P.funcs[f]?=some fn∧(fn.name == "runtime.NumGoroutine")=false∧fn.body.isNone=false
 calls:∀ (ok:Nat→Prop) (w:World) (vs:Array Value),GOK ok w→(∀ b,ok b→b<w.heap.size)→vs.size=ds.length→(∀ (i:Nat) v d,vs[i]?=some v→ds[i]?=some d→RdD ok w v d) →
  Calls P f vs w fun e w'=>∃ v,e = .returned v∧Frame (fun _ _=>False) w w'∧NZ (fun b=>ok b∨(w.heap.size≤b∧b<w'.heap.size)) w' v rs
theorem Frame.lC {w w':World} (h:Frame (fun _ _=>False) w w') (b:Nat) (hb:b<w.heap.size):w'.heap[b]?=w.heap[b]?:=h.blk b hb (fun _ h=>h)
theorem Frame.UN {wr:Nat→Nat→Prop} {w0 w w':World} (h:Frame wr w0 w) (k:Frame (fun _ _=>False) w w'):Frame wr w0 w':=
 ⟨k.os.trans h.os,k.tape.trans h.tape,k.output.trans h.output,Nat.le_trans h.size k.size,fun b hb hn=>(k.lC b (Nat.lt_of_lt_of_le hb h.size)).trans (h.blk b hb hn),
  fun b c T fz hb=>by
   obtain ⟨c',h1,h2⟩:=h.cel b c T fz hb
   exact ⟨c',(k.lC b (Array.getElem?_eq_some_iff.1 h1).1).trans h1,h2⟩⟩
def dB (h:Key→Option Res) (id:Nat):Nat→Nat→(List D→List Key→Prop)→Prop
 | 0,_,K=>K [] []
 | n+1,o,K=>match h (id,o) with
   | some (.cell (.d d))=>dB h id n (o+1) fun ds rd=>K (d::ds) ((id,o)::rd)
   | some (.cell (.sl id2 sz off len))=>jU (h (id2,0)) fun sz2 xs=>bD (Nat.beq sz sz2) (∃ ys,(xs.drop off).take len=ys∧off+len≤xs.length∧dB h id n (o+1) fun ds rd=>K (.list ys::ds) ((id,o)::(id2,0)::rd))
   | _=>K [] []
def KO (h:Key→Option Res) (k:Key) (d:D) (rd:List Key):Prop:=
 k∈rd∧(h k=some (.cell (.d d))∨∃ id2 sz off len xs,h k=some (.cell (.sl id2 sz off len))∧h (id2,0)=some (.arr sz xs)∧off+len≤xs.length∧d = .list ((xs.drop off).take len)∧(id2,0)∈rd)
theorem KO.more {h:Key→Option Res} {k:Key} {d:D} {rd rd':List Key} (hs:∀ x∈rd,x∈rd') (hc:KO h k d rd):KO h k d rd':=by
 obtain ⟨h1,h2⟩:=hc
 refine ⟨hs _ h1,h2.imp id ?_⟩
 rintro ⟨id2,sz,off,len,xs,g1,g2,g3,g4,g5⟩
 exact ⟨id2,sz,off,len,xs,g1,g2,g3,g4,hs _ g5⟩
theorem bV {h:Key→Option Res} {id:Nat}:∀ {n o:Nat} {K:List D→List Key→Prop},dB h id n o K→∃ ds rd,K ds rd∧∀ (j:Nat) d,ds[j]?=some d→KO h (id,o+j) d rd
 | 0,o,K,hK=>⟨[],[],hK,fun j d hd=>by simp at hd⟩
 | n+1,o,K,hK=>by
   unfold dB at hK
   split at hK
   ·rename_i d hd
    obtain ⟨ds,rd,h1,h2⟩:=bV hK
    refine ⟨d::ds,_,h1,fun j d' hj=>?_⟩
    cases j with
    | zero=>simp at hj;subst hj;exact ⟨by simp,.inl hd⟩
    | succ j=>
      have:=(h2 j d' (by simpa using hj)).more (rd':=(id,o)::rd) (fun x hx=>by simp [hx])
      rwa [show o+1+j=o+(j+1) by omega] at this
   ·rename_i id2 sz off len hd
    obtain ⟨sz2,xs,hh,hK⟩:=dM hK
    obtain ⟨hs,ys,rfl,hl,hK5⟩:=aF hK
    have e:sz=sz2:=Nat.eq_of_beq_eq_true hs
    subst e
    obtain ⟨ds,rd,h1,h2⟩:=bV hK5
    refine ⟨_::ds,_,h1,fun j d' hj=>?_⟩
    cases j with
    | zero=>simp at hj;subst hj;exact ⟨by simp,.inr ⟨id2,sz,off,len,xs,hd,hh,hl,rfl,by simp⟩⟩
    | succ j=>
      have:=(h2 j d' (by simpa using hj)).more (rd':=(id,o)::(id2,0)::rd) (fun x hx=>by simp [hx])
      rwa [show o+1+j=o+(j+1) by omega] at this
   ·exact ⟨[],[],hK,fun j d hd=>by simp at hd⟩
def adk (v:V) (h:Key→Option Res) (K:D→List Key→Prop):Prop:=
 match v with
 | .d x=>K x []
 | .aj=>K (.list []) []
 | .emp=>K (.list []) []
 | .sl id sz off len=>jU (h (id,0)) fun sz2 xs=>bD (Nat.beq sz sz2) (∃ ys,(xs.drop off).take len=ys∧off+len≤xs.length∧K (.list ys) [(id,0)])
 | .ptr id off=>dB h id 16 0 fun ds rd=>match ds with
   | []=>False
   | d::ds=>K (.ref (d::ds) off) rd
 | .rsl id _=>sJ (h (id,0)) fun _ rs out=>match out with
   | none=>K (.list (rs.map D.list)) [(id,0)]
   | some _=>False
 | _=>False
def UJ (vs:List V) (h:Key→Option Res) (K:List D→List Key→Prop):Prop:=
 match vs with
 | []=>K [] []
 | v::vs=>adk v h fun d rd=>UJ vs h fun ds rd'=>K (d::ds) (rd++rd')
def UH (v:V) (h:Key→Option Res) (K:D→List Key→Prop):Prop:=
 match v with
 | .func (.func f) [] cs=>UJ cs h fun ds rd=>K (.fn f ds) rd
 | v=>adk v h K
def UG (vs:List V) (h:Key→Option Res) (K:List D→List Key→Prop):Prop:=
 match vs with
 | []=>K [] []
 | v::vs=>UH v h fun d rd=>UG vs h fun ds rd'=>K (d::ds) (rd++rd')
def abg (v:V) (h:Key→Option Res) (K:D→List Key→Prop):Prop:=
 match v with
 | .agg cs=>UG cs h fun ds rd=>K (.agg ds) rd
 | v=>UH v h K
def args (vs:List V) (h:Key→Option Res) (K:List D→List Key→Prop):Prop:=
 match vs with
 | []=>K [] []
 | v::vs=>abg v h fun d rd=>args vs h fun ds rd'=>K (d::ds) (rd++rd')
def Reads (h:Key→Option Res) (v:V) (d:D) (rd:List Key):Prop:=
 ∀ (β:Nat→Value) (u ok ok':Nat→Prop) (w:World) val,RdV β u ok w val v→(∀ k∈rd,∀ r,h k=some r→Own β u ok w k r∧∀ b,Blk β w k r b→ok' b)→(∀ b,ok b→ok' b)→RdD ok' w val d
theorem RdD.CP {ok ok':Nat→Prop} {w:World} {β:Nat→Value} {u:Nat→Prop} {val:Value} {id sz off len:Nat} {xs:List D} (hv:RdV β u ok w val (.sl id sz off len)) (ho:dI ok w (β id) sz xs) (hl:off+len≤xs.length)
  (hb:∀ b,aN (β id)=some b→ok' b) (hok:∀ b,ok b→ok' b):RdD ok' w val (.list ((xs.drop off).take len)):=by
 obtain ⟨⟨a,cap,rfl,h1,h2,h3,h4,h5⟩,h6⟩:=ho.sub hv hl
 rcases Nat.eq_zero_or_pos cap with h0 | h0
 ·subst h0
  have:(xs.drop off).take len=[]:=List.length_eq_zero_iff.1 (by omega)
  rw [this]
  exact .lF _
 ·obtain ⟨b,o,cur,T,rfl,g1,g2,g3⟩:=h5 h0
  have hbl:ok' b:=hb b (h6 b (by cases cap with
   | zero=>omega
   | succ n=>rfl))
  refine .lst ⟨b,o,none⟩ cap sz _ (fun i j=>(cur[o+(i*sz+j)]?).getD undef) hbl rfl h1 h2 h3 h4 (fun i x j c hx hc=>?_) (fun i x j c hx hc=>?_)
  ·obtain ⟨u0,p1,p2,p3⟩:=g3 i x j c hx hc
   rw [cell_of_row w b _ cur T (0,0) g1,p1]
   exact ⟨rfl,p3⟩
  ·obtain ⟨u0,p1,p2,p3⟩:=g3 i x j c hx hc
   rw [p1]
   exact p2.mono (fun _ _=>rfl) hok
theorem dI.rd {ok ok':Nat→Prop} {w:World} {v:Value} {sz:Nat} {xs:List D} (h:dI ok w v sz xs) (hb:∀ b,aN v=some b→ok' b) (hok:∀ b,ok b→ok' b):RdD ok' w v (.list xs):=by
 obtain ⟨a,cap,rfl,h1,h2,h3,h4,h5⟩:=h
 rcases Nat.eq_zero_or_pos cap with h0 | h0
 ·subst h0
  have:xs=[]:=List.length_eq_zero_iff.1 (by omega)
  rw [this]
  exact .lF _
 ·obtain ⟨b,o,cur,T,rfl,g1,g2,g3⟩:=h5 h0
  have hbl:ok' b:=hb b (by cases cap with
   | zero=>omega
   | succ n=>rfl)
  refine .lst ⟨b,o,none⟩ cap sz _ (fun i j=>(cur[o+(i*sz+j)]?).getD undef) hbl rfl h1 h2 h3 h4 (fun i x j c hx hc=>?_) (fun i x j c hx hc=>?_)
  ·obtain ⟨u0,p1,p2,p3⟩:=g3 i x j c hx hc
   rw [cell_of_row w b _ cur T (0,0) g1,p1]
   exact ⟨rfl,p3⟩
  ·obtain ⟨u0,p1,p2,p3⟩:=g3 i x j c hx hc
   rw [p1]
   exact p2.mono (fun _ _=>rfl) hok
theorem RdD.ab1 {ok ok':Nat→Prop} {w:World} {β:Nat→Value} {u:Nat→Prop} {val:Value} {id len sz:Nat} {rs:List (List D)} (hv:RdV β u ok w val (.rsl id len)) (ho:Own β u ok w (id,0) (.rows sz rs none))
  (hb:∀ b,Blk β w (id,0) (.rows sz rs none) b→ok' b) (hok:∀ b,ok b→ok' b):RdD ok' w val (.list (rs.map D.list)):=by
 cases hv with
 | rsl _ _ cap a q1 q2 _=>
   obtain ⟨_,⟨a0,cap0,e1,e2,e3,e4,e5⟩,_⟩:=ho
   have e1:β id = .slice a0 rs.length cap0:=e1
   rw [q2] at e1
   simp only [Value.slice.injEq] at e1
   obtain ⟨rfl,rfl,rfl⟩:=e1
   rcases Nat.eq_zero_or_pos cap with h0 | h0
   ·subst h0
    have:rs=[]:=List.length_eq_zero_iff.1 (by omega)
    subst this
    exact .lF _
   ·obtain ⟨b,o,cur,T,rfl,g1,g2,g3,_⟩:=e5 h0
    have hbl:ok' b:=hb b (.inl (by show aN (β id)=_;rw [q2];cases cap with
     | zero=>omega
     | succ n=>rfl))
    have key:∀ (i:Nat) x,(rs.map D.list)[i]?=some x→∃ xs v,x = .list xs∧rs[i]?=some xs∧w.cell? ⟨b,o+i,none⟩=some v∧v.oneCell'=true∧RdD ok' w v x:=fun i x hx=>by
     simp only [List.getElem?_map,Option.map_eq_some_iff] at hx
     obtain ⟨xs,hx,rfl⟩:=hx
     obtain ⟨v,p1,p2,p3,_⟩:=g3 i xs hx
     obtain ⟨p4,p5⟩:=p3 rfl
     have hc:w.cell? ⟨b,o+i,none⟩=some v:=by rw [cell_of_row w b _ cur T (0,0) g1];exact p1
     refine ⟨xs,v,rfl,hx,hc,p2,p4.rd (fun c hc'=>hb c (.inr ⟨⟨b,o,none⟩,cap-1,rs.length,i,v,?_,(List.getElem?_eq_some_iff.1 hx).1,rfl,hc,hc'⟩)) hok⟩
     show β id=_
     rw [q2,Nat.sub_add_cancel h0]
    have:=RdD.lst (ok:=ok') (w:=w) ⟨b,o,none⟩ cap 1 (rs.map D.list) (fun i _=>(w.cell? ⟨b,o+i,none⟩).getD undef) hbl rfl (by simpa using e2) e3 (by decide) (fun i x hx=>by
     obtain ⟨xs,v,rfl,_⟩:=key i x hx;rfl) (fun i x j c hx hc=>by
     obtain ⟨xs,v,rfl,_,hv,h1,_⟩:=key i x hx
     cases j with
     | zero=>
       obtain rfl:D.list xs=c:=by simpa [D.cells] using hc
       rw [show o+(i*1+0)=o+i by omega,hv]
       exact ⟨rfl,h1,rfl⟩
     | succ j=>simp [D.cells] at hc) (fun i x j c hx hc=>by
     obtain ⟨xs,v,rfl,_,hv,_,h2⟩:=key i x hx
     cases j with
     | zero=>
       obtain rfl:D.list xs=c:=by simpa [D.cells] using hc
       rw [hv];exact h2
     | succ j=>simp [D.cells] at hc)
    rwa [List.length_map] at this
theorem Ii {v:V} {h:Key→Option Res} {K:D→List Key→Prop} (hK:adk v h K):∃ d rd,K d rd∧Reads h v d rd:=by
 unfold adk at hK
 split at hK
 ·exact ⟨_,_,hK,fun β u ok ok' w val hv hr hok=>hv.fB.mono (fun _ _=>rfl) hok⟩
 ·exact ⟨_,_,hK,fun β u ok ok' w val hv hr hok=>by cases hv;exact .lF _⟩
 ·exact ⟨_,_,hK,fun β u ok ok' w val hv hr hok=>by cases hv;exact .lF _⟩
 ·rename_i id sz off len
  obtain ⟨sz2,xs,hh,hK⟩:=dM hK
  obtain ⟨hs,ys,rfl,hl,hK5⟩:=aF hK
  have e:sz=sz2:=Nat.eq_of_beq_eq_true hs
  subst e
  refine ⟨_,_,hK5,fun β u ok ok' w val hv hr hok=>?_⟩
  obtain ⟨⟨_,ho⟩,hb⟩:=hr (id,0) (by simp) _ hh
  exact RdD.CP hv ho hl (fun b hb'=>hb b (.inl hb')) hok
 ·rename_i id off
  obtain ⟨ds,rd,hK,hc⟩:=bV hK
  cases ds with
  | nil=>exact hK.elim
  | cons d ds=>
    refine ⟨_,_,hK,fun β u ok ok' w val hv hr hok=>?_⟩
    cases hv with
    | ptr _ _ b h1 h2=>
      have key:∀ (j:Nat) c,(d::ds)[j]?=some c→∃ v,w.cell? ⟨b,0+j,none⟩=some v∧v.oneCell'=true∧RdD ok' w v c∧ok' b:=fun j c hj=>by
       have hh:=hc j c hj
       rw [Nat.zero_add] at hh
       obtain ⟨hin,hh⟩:=hh
       rcases hh with hh | ⟨id2,sz,off2,len,xs,hh,h3,h4,rfl,hin2⟩
       all_goals
        obtain ⟨ho,hb⟩:=hr (id,j) hin _ hh
        obtain ⟨b',cur,T,v,g1,g2,g3,g4,g5⟩:=ho
        have g1:β id = .pointer (some ⟨b',0,none⟩):=g1
        rw [h2] at g1
        cases g1
        refine ⟨v,?_,g4,?_,hb b (.inl (by show aN (β id)=_;rw [h2];rfl))⟩
        ·rw [cell_of_row w b _ cur T (0,0) g2,Nat.zero_add];exact g3
       ·exact g5.fB.mono (fun _ _=>rfl) hok
       ·obtain ⟨⟨_,ho2⟩,hb2⟩:=hr (id2,0) hin2 _ h3
        exact RdD.CP g5 ho2 h4 (fun b hb'=>hb2 b (.inl hb')) hok
      obtain ⟨_,_,_,_,hb⟩:=key 0 d rfl
      have:=RdD.ref (ok:=ok') (w:=w) b 0 off (d::ds) (fun j=>(w.cell? ⟨b,0+j,none⟩).getD undef) hb (fun j c hj=>by
       obtain ⟨v,k1,k2,k3,_⟩:=key j c hj
       rw [k1];exact ⟨rfl,k2,by rw [← k3.oneCell];exact k2⟩) (fun j c hj=>by
       obtain ⟨v,k1,k2,k3,_⟩:=key j c hj
       rw [k1];exact k3)
      rwa [Nat.zero_add] at this
 ·rename_i id len
  obtain ⟨sz,rs,out,hh,hK⟩:=kJ hK
  split at hK
  ·refine ⟨_,_,hK,fun β u ok ok' w val hv hr hok=>?_⟩
   obtain ⟨ho,hb⟩:=hr (id,0) (by simp) _ hh
   exact RdD.ab1 hv ho hb hok
  ·exact hK.elim
 ·exact hK.elim
theorem EO:∀ {vs:List V} {h:Key→Option Res} {K:List D→List Key→Prop},UJ vs h K→∃ ds rd,K ds rd∧ds.length=vs.length ∧
  ∀ (β:Nat→Value) (u ok ok':Nat→Prop) (w:World),(∀ k∈rd,∀ r,h k=some r→Own β u ok w k r∧∀ b,Blk β w k r b→ok' b)→(∀ b,ok b→ok' b) →
    ∀ (j:Nat) val v d,vs[j]?=some v→ds[j]?=some d→RdV β u ok w val v→RdD ok' w val d
 | [],h,K,hK=>⟨[],[],hK,rfl,fun β u ok ok' w _ _ j val v d hv=>by simp at hv⟩
 | v::vs,h,K,hK=>by
   unfold UJ at hK
   obtain ⟨d,rd,h1,h2⟩:=Ii hK
   obtain ⟨ds,rd',h3,h4,h5⟩:=EO h1
   refine ⟨d::ds,rd++rd',h3,by simp [h4],fun β u ok ok' w hr hok j val v' d' hv hd hval=>?_⟩
   cases j with
   | zero=>simp at hv hd;subst hv;subst hd;exact h2 β u ok ok' w val hval (fun k hk=>hr k (by simp [hk])) hok
   | succ j=>exact h5 β u ok ok' w (fun k hk=>hr k (by simp [hk])) hok j val v' d' (by simpa using hv) (by simpa using hd) hval
theorem EN {v:V} {h:Key→Option Res} {K:D→List Key→Prop} (hK:UH v h K):∃ d rd,K d rd∧Reads h v d rd:=by
 unfold UH at hK
 split at hK
 ·rename_i f cs
  obtain ⟨ds,rd,h1,h2,h3⟩:=EO hK
  refine ⟨_,_,h1,fun β u ok ok' w val hv hr hok=>?_⟩
  cases hv with
  | func _ fs vs _ _ g1 g2 g3 g4=>
    obtain rfl:fs=#[]:=Array.eq_empty_of_size_eq_zero g1
    refine .fn _ _ _ (by rw [g2,h2]) (fun i v c hv hc=>?_)
    have hi:i<cs.length:=by rw [← h2];exact (List.getElem?_eq_some_iff.1 hc).1
    have hcs:cs[i]?=some cs[i]:=by simp
    exact h3 β u ok ok' w hr hok i v _ c hcs hc (g4 i v _ hv hcs)
 ·exact Ii hK
theorem EM:∀ {vs:List V} {h:Key→Option Res} {K:List D→List Key→Prop},UG vs h K→∃ ds rd,K ds rd∧ds.length=vs.length ∧
  ∀ (β:Nat→Value) (u ok ok':Nat→Prop) (w:World),(∀ k∈rd,∀ r,h k=some r→Own β u ok w k r∧∀ b,Blk β w k r b→ok' b)→(∀ b,ok b→ok' b) →
    ∀ (j:Nat) val v d,vs[j]?=some v→ds[j]?=some d→RdV β u ok w val v→RdD ok' w val d
 | [],h,K,hK=>⟨[],[],hK,rfl,fun β u ok ok' w _ _ j val v d hv=>by simp at hv⟩
 | v::vs,h,K,hK=>by
   unfold UG at hK
   obtain ⟨d,rd,h1,h2⟩:=EN hK
   obtain ⟨ds,rd',h3,h4,h5⟩:=EM h1
   refine ⟨d::ds,rd++rd',h3,by simp [h4],fun β u ok ok' w hr hok j val v' d' hv hd hval=>?_⟩
   cases j with
   | zero=>simp at hv hd;subst hv;subst hd;exact h2 β u ok ok' w val hval (fun k hk=>hr k (by simp [hk])) hok
   | succ j=>exact h5 β u ok ok' w (fun k hk=>hr k (by simp [hk])) hok j val v' d' (by simpa using hv) (by simpa using hd) hval
theorem zn {v:V} {h:Key→Option Res} {K:D→List Key→Prop} (hK:abg v h K):∃ d rd,K d rd∧Reads h v d rd:=by
 unfold abg at hK
 split at hK
 ·rename_i cs
  obtain ⟨ds,rd,h1,h2,h3⟩:=EM hK
  refine ⟨_,_,h1,fun β u ok ok' w val hv hr hok=>?_⟩
  cases hv with
  | agg vs _ q1 q2 q3=>
    have key:∀ (i:Nat) v c,vs[i]?=some v→ds[i]?=some c→RdD ok' w v c:=fun i v c hv hc=>by
     have hi:i<cs.length:=by rw [← h2];exact (List.getElem?_eq_some_iff.1 hc).1
     have hcs:cs[i]?=some cs[i]:=by simp
     exact h3 β u ok ok' w hr hok i v _ c hcs hc (q2 i v _ hv hcs)
    exact .agg _ _ (by rw [q1,h2]) key (fun i v c hv hc=>⟨q3 i v hv,by rw [← (key i v c hv hc).oneCell];exact q3 i v hv⟩)
 ·exact EN hK
theorem Ig:∀ {vs:List V} {h:Key→Option Res} {K:List D→List Key→Prop},args vs h K→∃ ds rd,K ds rd∧ds.length=vs.length ∧
  ∀ (β:Nat→Value) (u ok ok':Nat→Prop) (w:World),(∀ k∈rd,∀ r,h k=some r→Own β u ok w k r∧∀ b,Blk β w k r b→ok' b)→(∀ b,ok b→ok' b) →
    ∀ (j:Nat) val v d,vs[j]?=some v→ds[j]?=some d→RdV β u ok w val v→RdD ok' w val d
 | [],h,K,hK=>⟨[],[],hK,rfl,fun β u ok ok' w _ _ j val v d hv=>by simp at hv⟩
 | v::vs,h,K,hK=>by
   unfold args at hK
   obtain ⟨d,rd,h1,h2⟩:=zn hK
   obtain ⟨ds,rd',h3,h4,h5⟩:=Ig h1
   refine ⟨d::ds,rd++rd',h3,by simp [h4],fun β u ok ok' w hr hok j val v' d' hv hd hval=>?_⟩
   cases j with
   | zero=>simp at hv hd;subst hv;subst hd;exact h2 β u ok ok' w val hval (fun k hk=>hr k (by simp [hk])) hok
   | succ j=>exact h5 β u ok ok' w (fun k hk=>hr k (by simp [hk])) hok j val v' d' (by simpa using hv) (by simpa using hd) hval
def D.DN:D→Bool
 | .bool _ | .int _ _ | .str _ | .dN=>true
 | _=>false
def D.flat:D→Bool
 | .agg cs=>cs.all D.DN
 | x=>x.DN
theorem RdD.DN {ok ok':Nat→Prop} {w:World} {v:Value} {d:D} (hf:d.DN=true) (h:RdD ok w v d):RdD ok' w v d:=by
 cases h<;>simp [D.DN] at hf
 ·exact .bool _
 ·exact .int _ _
 ·exact .str _ (by assumption)
 ·exact .dN
theorem RdD.flat {ok ok':Nat→Prop} {w:World} {v:Value} {d:D} (hf:d.flat=true) (h:RdD ok w v d):RdD ok' w v d:=by
 cases d with
 | agg cs=>cases h with
   | agg vs _ q1 q2 q3=>exact .agg vs cs q1 (fun i v c hv hc=>(q2 i v c hv hc).DN (List.all_eq_true.1 hf c (List.mem_of_getElem? hc))) q3
 | _=>exact RdD.DN hf h
def abU (rs:List D) (K:V→Prop):Prop:=
 match rs with
 | [r]=>K (.d r)
 | rs=>mapD rs fun vs=>K (.tuple vs)
theorem U6 {rs:List D} {K:V→Prop} (h:abU rs K):∃ x,K x∧∀ (β:Nat→Value) (u ok:Nat→Prop) (w:World) v,NZ ok w v rs→RdV β u ok w v x:=by
 have gen:∀ rs:List D,mapD rs (fun vs=>K (.tuple vs))→∃ x,K x∧∀ (β:Nat→Value) (u ok:Nat→Prop) (w:World) v,
   (∃ vs:Array Value,v = .tuple vs∧vs.size=rs.length∧∀ (i:Nat) u r,vs[i]?=some u→rs[i]?=some r→RdD ok w u r)→RdV β u ok w v x:=fun rs h=>
  ⟨_,sD h,fun β u ok w v ⟨vs,hv,h1,h2⟩=>by
   subst hv
   refine .tuple vs _ (by simpa using h1) (fun i v c hv hc=>?_)
   simp only [List.getElem?_map,Option.map_eq_some_iff] at hc
   obtain ⟨d,hd,rfl⟩:=hc
   exact .d _ _ (h2 i v d hv hd)⟩
 match rs,h with
 | [],h=>exact gen [] h
 | [r],h=>exact ⟨_,h,fun β u ok w v hv => .d _ _ hv⟩
 | r::r2::rest,h=>exact gen (r::r2::rest) h
def SN:List D→Bool
 | []=>true
 | d::ds=>d.flat&&SN ds
theorem NZ.flat {ok ok':Nat→Prop} {w:World} {v:Value} {rs:List D} (hf:SN rs=true) (h:NZ ok w v rs):NZ ok' w v rs:=by
 have hall:∀ r∈rs,r.flat=true:=by
  clear h
  induction rs with
  | nil=>simp
  | cons r rs ih=>
    simp only [SN,Bool.and_eq_true] at hf
    simpa [hf.1] using ih hf.2
 unfold NZ at h ⊢
 split at h
 ·exact RdD.flat (hall _ (by simp)) h
 ·obtain ⟨vs,h0,h1,h2⟩:=h
  exact ⟨vs,h0,h1,fun i u r hu hr=>RdD.flat (hall r (List.mem_of_getElem? hr)) (h2 i u r hu hr)⟩
section
variable {P:Program} {C:Ctx} {β:Nat→Value} {ok:Nat→Prop} {s:S} {a:Act} {w:World}
theorem RelB.called (h:RelB C β ok s a w) {dst:Option Tmp} (hd:∀ d,dst=some d→d<C.nt) {w':World} (hf:Frame (fun _ _=>False) w w') {v:Value} {x:V}
  (hv:RdV β s.used (fun b=>ok b∨(w.heap.size≤b∧b<w'.heap.size)) w' v x):RelB C β (fun b=>ok b∨(w.heap.size≤b∧b<w'.heap.size)) (s.apply dst x [] []) (a.put dst v) w':=
 h.step hd (fun _ _=>rfl) (fun _ h => .inl h) (fun b hb=>hf.lC b (h.okb b hb)) (hv.mono (fun _ _=>rfl) (fun i hi => .inl hi) (fun _ _=>rfl) (fun _ h=>h))
  (fun k r hr _ b hb=>by
   have hs:=h.sep k r b hr hb
   exact ⟨⟨fun hc=>hc.elim hs.1 (by omega),Nat.lt_of_lt_of_le hs.2.1 hf.size⟩,.inl (hf.lC b hs.2.1)⟩)
  (fun k r hm=>by cases hm) (fun k k' r r' b hm=>by cases hm)
  (fun b hb=>hb.elim (fun h'=>Nat.lt_of_lt_of_le (h.okb b h') hf.size) (fun h'=>h'.2))
  (fun b hb=>hb.elim .inl (fun h' => .inr (.inl (Nat.le_trans h.frame.size h'.1))))
  (h.frame.UN hf)
end
def Bc (P:Program) (f:FuncId) (vals:List V) (h:Key→Option Res) (K:KK):Prop:=
 args vals h fun ds rd=>∃ rs,Pure P f ds rs∧(rd=[]∨SN rs=true)∧abU rs fun x=>K x [] rd []
def PX (P:Program) (vals:List V) (h:Key→Option Res) (K:KK):Prop:=
 match vals with
 | .func (.func f) first captured::vs=>Bc P f (first++vs++captured) h K
 | .d (.fn f cs)::vs=>Bc P f ([]++vs++cs.map V.d) h K
 | _=>False
theorem uD {P:Program} {o:Oper} {fv:Operand} {as:Array Operand} {tys:Array TypeId} (ho:o.op = .call { callee := .value fv,args:=as,argTypes:=tys }) {f:FuncId} {v0:V} {first vs captured:List V}
  (hf0:∀ (β:Nat→Value) (u ok:Nat→Prop) (w:World) v,RdV β u ok w v v0→RdV β u ok w v (.func (.func f) first captured)) {h:Key→Option Res} {K:KK} (hK:Bc P f (first++vs++captured) h K) :
  ∃ x δ rd nw,K x δ rd nw∧aP P o (v0::vs) h x δ rd nw:=by
 unfold Bc at hK
 obtain ⟨ds,rd,⟨rs,hp,hfl,hK⟩,h1,h2⟩:=Ig hK
 obtain ⟨x,hK,h3⟩:=U6 hK
 refine ⟨_,_,_,_,hK,fun C s a w hrel g1 g2 g3 g4 g5 K' Q hK'=>?_⟩
 obtain ⟨β,ok,hr⟩:=hrel
 simp only [ho,Op.operands,Call.operands] at g1 g5
 have g1':s.ev fv=v0∧as.toList.map s.ev=vs:=by simpa using g1
 have hf:=hr.eval fv (g5 fv (by simp))
 rw [g1'.1] at hf
 replace hf:=hf0 _ _ _ _ _ hf
 generalize hvf:a.eval fv=vf at hf
 cases hf with
 | func _ fs cs _ _ q1 q2 q3 q4=>
   obtain ⟨fn,e1,e2,e3⟩:=hp.there
   let ok':Nat→Prop:=fun b=>ok b∨∃ k∈rd,∃ r,h k=some r∧Blk β w k r b
   have hown:∀ k∈rd,∀ r,h k=some r→Own β s.used ok w k r∧∀ b,Blk β w k r b→ok' b:=fun k hk r hkr=>
    ⟨(hr.heap k r (by rw [g2 k hk];exact hkr)).2,fun b hb => .inr ⟨k,hk,r,hkr,hb⟩⟩
   have hokb:∀ b,ok' b→b<w.heap.size:=fun b hb=>by
    rcases hb with hb | ⟨k,hk,r,hkr,hb⟩
    ·exact hr.okb b hb
    ·exact (hr.sep k r b (by rw [g2 k hk];exact hkr) hb).2.1
   have hargs:∀ (i:Nat) v d,((fs++as.map a.eval)++cs)[i]?=some v→ds[i]?=some d→RdD ok' w v d:=fun i v d hv hd=>by
    have hi:i<(first++vs++captured).length:=by rw [← h1];exact (List.getElem?_eq_some_iff.1 hd).1
    have hvi:(first++vs++captured)[i]?=some (first++vs++captured)[i]:=by simp only [List.getElem?_eq_getElem hi]
    refine h2 β s.used ok ok' w hown (fun b hb => .inl hb) i v _ d hvi hd ?_
    generalize (first++vs++captured)[i]=y at hvi
    rw [← Array.getElem?_toList,Array.toList_append,Array.toList_append,Array.toList_map] at hv
    rcases Nat.lt_or_ge i first.length with l1 | l1
    ·rw [List.append_assoc,List.getElem?_append_left l1] at hvi
     rw [List.append_assoc,List.getElem?_append_left (by simpa [q1] using l1)] at hv
     exact q3 i v y (by simpa using hv) hvi
    ·rw [List.append_assoc,List.getElem?_append_right l1] at hvi
     rw [List.append_assoc,List.getElem?_append_right (by simpa [q1] using l1)] at hv
     have el:fs.toList.length=first.length:=by simpa using q1
     rw [el] at hv
     have ev:vs.length=as.toList.length:=by rw [← g1'.2];simp
     rcases Nat.lt_or_ge (i-first.length) vs.length with l2 | l2
     ·rw [List.getElem?_append_left l2] at hvi
      rw [List.getElem?_append_left (by simpa [ev] using l2)] at hv
      rw [← g1'.2] at hvi
      simp only [List.getElem?_map,Option.map_eq_some_iff] at hv hvi
      obtain ⟨z,hz,rfl⟩:=hv
      obtain ⟨z',hz',rfl⟩:=hvi
      rw [hz] at hz'
      cases hz'
      exact hr.eval z (g5 z (by have:=List.mem_of_getElem? hz;simp;exact .inr (by simpa using this)))
     ·rw [List.getElem?_append_right l2] at hvi
      rw [List.getElem?_append_right (by simpa [ev] using l2)] at hv
      rw [List.length_map,← ev] at hv
      exact q4 _ v y (by simpa using hv) hvi
   have hc:=hp.calls ok' w ((fs++as.map a.eval)++cs) (hr.glob.mono (fun _ _=>rfl) fun _ h => .inl h) hokb (by rw [h1,← g1'.2];simp [q1,q2]) hargs
   unfold Oper.wp
   have hrun:(execOp a.eval o).run P w = .ok (.enter f ((fs++as.map a.eval)++cs)) w:=by
    have e3':fn.body≠none:=by intro e;rw [e] at e3;cases e3
    have e2':¬ fn.name = "runtime.NumGoroutine" := by simpa using e2
    simp [execOp,ho,resolve,hvf,Deferred.ofValue,invoke,callFunc,e1,e2',e3']
   rw [hrun]
   refine hc.mono fun e w' ⟨v,he,hfr,hres⟩=>?_
   subst he
   have hres':NZ (fun b=>ok b∨(w.heap.size≤b∧b<w'.heap.size)) w' v rs:=by
    rcases hfl with h0 | h0
    ·subst h0
     have heq:ok'=ok:=by funext b;simp [ok']
     rw [heq] at hres
     exact hres
    ·exact hres.flat h0
   exact hK' _ _ ⟨β,_,hr.called g4 hfr (h3 β s.used _ w' v hres')⟩
theorem JD {P:Program} {o:Oper} {fv:Operand} {as:Array Operand} {tys:Array TypeId} (ho:o.op = .call { callee := .value fv,args:=as,argTypes:=tys }) {vals:List V} {h:Key→Option Res} {K:KK} (hK:PX P vals h K) :
  ∃ x δ rd nw,K x δ rd nw∧aP P o vals h x δ rd nw:=by
 unfold PX at hK
 split at hK
 ·exact uD ho (fun _ _ _ _ _ h=>h) hK
 ·rename_i f cs vs
  refine uD ho (first:=[]) (fun β u ok w v hv=>?_) hK
  cases hv with
  | d _ _ hd=>
    cases hd with
    | fn _ us _ h1 h2=>
      refine .func _ _ _ _ _ rfl (by simpa using h1) (fun i v x hv=>by simp at hv) (fun i v x hv hx=>?_)
      simp only [List.getElem?_map,Option.map_eq_some_iff] at hx
      obtain ⟨d,hd,rfl⟩:=hx
      exact .d _ _ (h2 i v d hv hd)
 ·exact hK.elim
section
variable {P:Program} {T:Nat→TE}
def DV (fs:List (Nat×Nat×Bool)) (f:Nat) (K:Nat→Nat→Bool→Prop):Prop:=
 match fs,f with
 | (fo,fsz,fb)::_,0=>K fo fsz fb
 | _::fs,f+1=>DV fs f K
 | [],_=>False
theorem uy:∀ {fs:List (Nat×Nat×Bool)} {f:Nat} {K:Nat→Nat→Bool→Prop},DV fs f K→∃ fo fsz fb,fs[f]?=some (fo,fsz,fb)∧K fo fsz fb
 | (fo,fsz,fb)::fs,0,K,h=>⟨fo,fsz,fb,rfl,h⟩
 | _::fs,f+1,K,h=>by
   obtain ⟨fo,fsz,fb,h1,h2⟩:=uy (fs:=fs) (f:=f) h
   exact ⟨fo,fsz,fb,by simpa using h1,h2⟩
 | [],_,K,h=>h.elim
def jJ {α:Type}:List α→Nat→(α→Prop)→Prop
 | [],_,_=>False
 | x::_,0,K=>K x
 | _::xs,n+1,K=>jJ xs n K
theorem yO {α:Type}:∀ {xs:List α} {n:Nat} {K:α→Prop},jJ xs n K→∃ x,xs[n]?=some x∧K x
 | [],_,_,h=>h.elim
 | x::_,0,K,h=>⟨x,rfl,h⟩
 | _::xs,n+1,K,h=>by
   obtain ⟨x,h1,h2⟩:=yO (xs:=xs) (n:=n) h
   exact ⟨x,by simpa using h1,h2⟩
def aaX {α:Type}:List α→Nat→Nat→(List α→Prop)→Prop
 | _,0,0,K=>K []
 | [],_,_,_=>False
 | x::xs,0,n+1,K=>aaX xs 0 n fun r=>K (x::r)
 | _::xs,o+1,n,K=>aaX xs o n K
theorem sU {α:Type}:∀ {xs:List α} {o n:Nat} {K:List α→Prop},aaX xs o n K→o+n≤xs.length∧K ((xs.drop o).take n)
 | [],0,0,K,h=>⟨by simp,h⟩
 | _::_,0,0,K,h=>⟨by simp,h⟩
 | [],0,n+1,_,h=>h.elim
 | [],o+1,n,_,h=>h.elim
 | x::xs,0,n+1,K,h=>by
   obtain ⟨h1,h2⟩:=sU (xs:=xs) (o:=0) (n:=n) h
   exact ⟨by simp at h1 ⊢;omega,by simpa using h2⟩
 | _::xs,o+1,n,K,h=>by
   obtain ⟨h1,h2⟩:=sU (xs:=xs) (o:=o) (n:=n) h
   exact ⟨by simp at h1 ⊢;omega,by simpa using h2⟩
def Tc (te:TE) (f:Nat) (vals:List V) (K:KK):Prop:=
 DV te.fields f fun fo fsz fb=>
  match vals with
  | [.d x]=>match x with
    | .agg cs=>match fb with
      | true=>aaX cs fo fsz fun r=>K (.d (.agg r)) [] [] []
      | false=>jJ cs fo fun d=>K (.d d) [] [] []
    | _=>False
  | [.agg cs]=>match fb with
    | true=>aaX cs fo fsz fun r=>K (CY r) [] [] []
    | false=>jJ cs fo fun v=>K v [] [] []
  | _=>False
theorem rV (hT:TOK P T) {t f:Nat} {fs:List (Nat×Nat×Bool)} {fo fsz:Nat} {fb:Bool} (hk:(T t).k = .agg fs) (hf:fs[f]?=some (fo,fsz,fb)) (us:Array Value) (w:World) :
  (fb=true→fo+fsz≤us.size→(Instr.field t (.agg us) f).run P w = .ok (.agg (us.extract fo (fo+fsz))) w)∧(fb=false→∀ u,us[fo]?=some u→(Instr.field t (.agg us) f).run P w = .ok u w):=by
 obtain ⟨d,i,h⟩:=hT.facts (t:=t) (by rw [hk];intro e;cases e)
 have hd:=h.k
 rw [hk] at hd
 cases d
 case struct fields=>
  simp only [kOf] at hd
  split at hd
  case isFalse=>cases hd
  rename_i hall
  simp only [TK.agg.injEq] at hd
  subst hd
  simp only [List.getElem?_map,Option.map_eq_some_iff] at hf
  obtain ⟨fd,hfd,he⟩:=hf
  simp only [Prod.mk.injEq] at he
  obtain ⟨rfl,rfl,rfl⟩:=he
  have hfd':fields[f]?=some fd:=by simpa using hfd
  have h1:=(Bool.and_eq_true _ _).mp (List.all_eq_true.1 hall fd (List.mem_of_getElem? hfd))
  obtain ⟨ii,hii⟩:=Option.isSome_iff_exists.1 h1.1
  obtain ⟨dd,hdd⟩:=Option.isSome_iff_exists.1 h1.2
  have hagg:=sH (P:=P) hdd w
  have hsz:P.cellsOf fd.type=ii.size:=by simp [Program.cellsOf,hii]
  have hrun:(Instr.field t (.agg us) f).run P w=((Go.part fd.type us fd.offset).run P w):=by
   simp [Instr.field,run_underlying h.und,hfd',Go.asAgg]
  refine ⟨fun hb _=>?_,fun hb u hu=>?_⟩
  ·rw [hb] at hagg
   rw [hrun]
   simp [Go.part,hagg,Go.sizeOf,typeInfo,hii,hsz]
  ·rw [hb] at hagg
   rw [hrun]
   simp [Go.part,hagg,hu]
 all_goals (simp only [kOf] at hd;first | (split at hd<;>cases hd) | cases hd)
theorem Fz (hT:TOK P T) {o:Oper} {t f:Nat} {x:Operand} (ho:o.op = .field t x f) {vals:List V} {h:Key→Option Res} {K:KK} (hK:Tc (T t) f vals K) :
  ∃ x δ rd nw,K x δ rd nw∧aP P o vals h x δ rd nw:=by
 obtain ⟨fo,fsz,fb,h1,hK⟩:=uy hK
 obtain ⟨fs,hk,hfs⟩:∃ fs,(T t).k = .agg fs∧(T t).fields=fs:=by
  unfold TE.fields at h1 ⊢
  split at h1
  ·rename_i fs hk;exact ⟨fs,hk,rfl⟩
  ·simp at h1
 rw [hfs] at h1
 split at hK
 ·rename_i x0
  split at hK
  ·rename_i cs
   split at hK
   ·obtain ⟨hle,hK⟩:=sU hK
    refine ⟨_,_,_,_,hK,aP.dD fun β u ok w ρ e g1 g2 g3=>?_⟩
    simp only [ho,Op.operands,List.map_cons,List.map_nil,List.cons.injEq,and_true] at g1 g2
    have hx:=g1 x (by simp)
    rw [g2] at hx
    have hx':=hx.fB
    generalize hvx:ρ x=vx at hx'
    cases hx' with
    | agg us _ e1 e2 e3=>
      refine ⟨_,by simp only [execOp,ho,hvx];rw [Sem.run_bind,(rV hT hk h1 us w).1 rfl (by omega)];rfl,.d _ _ (RdD.Qk (.agg us cs e1 e2 e3) fo fsz hle)⟩
   ·obtain ⟨d,hd,hK⟩:=yO hK
    refine ⟨_,_,_,_,hK,aP.dD fun β u ok w ρ e g1 g2 g3=>?_⟩
    simp only [ho,Op.operands,List.map_cons,List.map_nil,List.cons.injEq,and_true] at g1 g2
    have hx:=g1 x (by simp)
    rw [g2] at hx
    have hx':=hx.fB
    generalize hvx:ρ x=vx at hx'
    cases hx' with
    | agg us _ e1 e2 e3=>
      have hi:fo<us.size:=by rw [e1];exact (List.getElem?_eq_some_iff.1 hd).1
      refine ⟨us[fo],by simp only [execOp,ho,hvx];rw [Sem.run_bind,(rV hT hk h1 us w).2 rfl us[fo] (by simp [hi])];rfl,.d _ _ (e2 fo _ _ (by simp [hi]) hd)⟩
  ·exact hK.elim
 ·rename_i cs
  split at hK
  ·obtain ⟨hle,hK⟩:=sU hK
   refine ⟨_,_,_,_,hK,aP.dD fun β u ok w ρ e g1 g2 g3=>?_⟩
   simp only [ho,Op.operands,List.map_cons,List.map_nil,List.cons.injEq,and_true] at g1 g2
   have hx:=g1 x (by simp)
   rw [g2] at hx
   generalize hvx:ρ x=vx at hx
   cases hx with
   | agg us _ e1 e2 e3=>
     refine ⟨_,by simp only [execOp,ho,hvx];rw [Sem.run_bind,(rV hT hk h1 us w).1 rfl (by omega)];rfl,qG (by simp;omega) (fun i v c hv hc=>?_) (fun i v hv=>?_)⟩
     ·obtain ⟨hi,he⟩:=Array.getElem?_eq_some_iff.1 hv
      rw [Array.getElem_extract] at he
      simp at hi
      rw [List.getElem?_take_of_lt (by omega),List.getElem?_drop] at hc
      exact e2 (fo+i) v c (Array.getElem?_eq_some_iff.2 ⟨by omega,he⟩) hc
     ·obtain ⟨hi,he⟩:=Array.getElem?_eq_some_iff.1 hv
      rw [Array.getElem_extract] at he
      simp at hi
      exact e3 (fo+i) v (Array.getElem?_eq_some_iff.2 ⟨by omega,he⟩)
  ·obtain ⟨d,hd,hK⟩:=yO hK
   refine ⟨_,_,_,_,hK,aP.dD fun β u ok w ρ e g1 g2 g3=>?_⟩
   simp only [ho,Op.operands,List.map_cons,List.map_nil,List.cons.injEq,and_true] at g1 g2
   have hx:=g1 x (by simp)
   rw [g2] at hx
   generalize hvx:ρ x=vx at hx
   cases hx with
   | agg us _ e1 e2 e3=>
     have hi:fo<us.size:=by rw [e1];exact (List.getElem?_eq_some_iff.1 hd).1
     refine ⟨us[fo],by simp only [execOp,ho,hvx];rw [Sem.run_bind,(rV hT hk h1 us w).2 rfl us[fo] (by simp [hi])];rfl,e2 fo _ _ (by simp [hi]) hd⟩
 ·exact hK.elim
end
def acH (P:Program) (T:Nat→TE) (mu:Bool) (o:Oper) (vals:List V) (h:Key→Option Res) (n:Nat) (K:KK):Prop:=
 match o.op with
 | .move _=>JA vals K
 | .assign _=>JA vals K
 | .pick _ _ _=>PU vals K
 | .alloc t=>Tf (T t) n K
 | .box t _=>ZQ mu (T t) vals n K
 | .build t parts=>match (T t).k with
   | .arr n e=>Ny T t n e parts.toList vals K
   | _=>Td (T t) parts.toList vals K
 | .load t _=>D8 (T t) vals h K
 | .store t _ _=>bD (T t).known (Jy (T t) vals h K)
 | .binOp op t _ _ _=>ZR op (T t) vals K
 | .unOp op _ _=>aiT op vals K
 | .convert src dst _=>PW (T src).k (T dst).k vals K
 | .makeFunc fn first _=>DZ fn first.size vals K
 | .fieldAddr t _ f=>zX (T t) f vals K
 | .field t _ f=>Tc (T t) f vals K
 | .indexAddr t _ _=>zW T t vals K
 | .index t _ _=>S9 (T t) vals K
 | .extract _ i=>zf i vals K
 | .slice t _ lo hi mx=>Ba T t lo.isSome hi.isSome mx.isSome vals K
 | .call c=>match c.callee with
   | .value _=>PX P vals h K∨False
   | .builtin .len=>match c.argTypes,c.args with
     | ⟨[t]⟩,⟨[_]⟩=>ZP (T t) vals K
     | _,_=>False
   | _=>False
 | _=>False
theorem PV {P:Program} {T:Nat→TE} (hT:TOK P T) {mu:Bool} {o:Oper} {vals:List V} {h:Key→Option Res} {n:Nat} {K:KK} (hK:acH P T mu o vals h n K) :
  ∃ x δ rd nw,K x δ rd nw∧aP P o vals h x δ rd nw:=by
 unfold acH at hK
 split at hK
 ·exact xH (.inl (by assumption)) hK
 ·exact xH (.inr (by assumption)) hK
 ·exact Jz (by assumption) hK
 ·exact FH hT (by assumption) hK
 ·exact Nz (by assumption) hK
 ·split at hK
  ·exact D9 hT (by assumption) (by assumption) hK
  ·exact FD hT (by assumption) hK
 ·exact JB hT (by assumption) hK
 ·obtain ⟨h1,h2⟩:=aF hK
  exact Fj hT (by assumption) h1 h2
 ·exact NC hT (by assumption) hK
 ·exact PS (by assumption) hK
 ·exact JC hT (by assumption) hK
 ·exact y9 (by assumption) hK
 ·exact xO hT (by assumption) hK
 ·exact Fz hT (by assumption) hK
 ·exact xK hT (by assumption) hK
 ·exact Fv hT (by assumption) hK
 ·exact AB (by assumption) hK
 ·exact Fp hT (by assumption) hK
 ·rename_i c ho
  obtain ⟨callee,as,tys⟩:=c
  split at hK
  ·rename_i fv hc
   simp only at hc
   subst hc
   exact hK.elim (JD ho) (fun h=>h.elim)
  ·rename_i hc
   simp only at hc
   subst hc
   split at hK
   ·rename_i t x h1 h2
    simp only at h1 h2
    subst h1;subst h2
    exact Nw hT ho hK
   ·exact hK.elim
  ·exact hK.elim
 ·exact hK.elim
structure Y where
 x:V
 δ:List (Key×Option Res)
 rd:List Key
 nw:List Nat
def S.after (s:S) (o:Oper) (y:Y):S:=s.apply o.dst y.x y.δ y.nw
def fD (ops:Array Oper) (o:Oper) (s:S):Option Bool:=
 match o.guard with
 | none=>some true
 | some (j,want)=>match (ops[j]?).bind (·.dst) with
   | some d=>match s.env d with
     | .d (.bool b)=>some (b==want)
     | .undef=>some false
     | _=>none
   | none=>none
def Yields (P:Program) (ops:Array Oper) (o:Oper) (y:Y) (s:S):Prop:=
 (fD ops o s=some true∧∃ h,aP P o (o.op.operands.toList.map s.ev) h y.x y.δ y.rd y.nw∧(∀ k∈y.rd,s.hp k=h k)∧(∀ i∈y.nw,¬ s.used i)) ∨
 (fD ops o s=some false∧y=⟨.undef,[],[],[]⟩)
theorem FK {ops:Array Oper} {o:Oper} {C:Ctx} {s:S} {a:Act} {w:World} {b:Bool} (hr:Rel C s a w) (hg:∀ j want,o.guard=some (j,want)→∀ d,(ops[j]?).bind (·.dst)=some d→d<C.nt) (h:fD ops o s=some b) :
  Region.wanted o (yielded ops a.tmps)=b:=by
 obtain ⟨β,ok,hr⟩:=hr
 unfold fD at h
 unfold Region.wanted
 split at h
 ·rename_i hgd;simp only [hgd];simpa using h
 ·rename_i j want hgd
  simp only [hgd]
  split at h
  ·rename_i d hd
   split at h
   ·rename_i b' hb
    have:=hr.env d
    rw [hb] at this
    have hv:=this.fB
    have hlt:d<a.tmps.size:=by rw [hr.jg];exact hg j want hgd d hd
    simp only [yielded,hd,Option.bind_some]
    have e:a.tmps[d]?=some (a.tmps.getD d undef):=by simp [hlt]
    rw [e]
    generalize a.tmps.getD d undef=v at hv
    cases hv
    simp only [Option.some.injEq] at h
    subst h
    cases b'<;>cases want<;>rfl
   ·rename_i hb
    have:=hr.env d
    rw [hb] at this
    simp only [Option.some.injEq] at h
    subst h
    have hlt:d<a.tmps.size:=by rw [hr.jg];exact hg j want hgd d hd
    simp only [yielded,hd,Option.bind_some]
    have e:a.tmps[d]?=some (a.tmps.getD d undef):=by simp [hlt]
    rw [e]
    generalize a.tmps.getD d undef=v at this
    cases this
    rfl
   ·cases h
  ·cases h
def agL (nt:Nat) (o:Oper):Bool:=match o.dst with | some d=>Nat.blt d nt | none=>true
def Xw (nt:Nat) (o:Oper):Bool:=agL nt o&&o.op.operands.toList.all okO
theorem Gm {nt:Nat} {o:Oper} (h:Xw nt o=true):(∀ d,o.dst=some d→d<nt)∧∀ y∈o.op.operands.toList,okO y=true:=by
 simp only [Xw,Bool.and_eq_true] at h
 refine ⟨fun d hd=>?_,List.all_eq_true.1 h.2⟩
 have:=h.1
 unfold agL at this
 rw [hd] at this
 exact Nat.le_of_ble_eq_true this
theorem BF {P:Program} {ops:Array Oper} {o:Oper} {y:Y} {C:Ctx} {s:S} {a:Act} {w:World} (hr:Rel C s a w) (hop:Xw C.nt o=true) (hg:∀ j want,o.guard=some (j,want)→∀ d,(ops[j]?).bind (·.dst)=some d→d<C.nt)
  (hy:Yields P ops o y s) {K:Act→World→Prop} {Q:Exit→Act→World→Prop} (hK:∀ a' w',Rel C (s.after o y) a' w'→K a' w') :
  if Region.wanted o (yielded ops a.tmps) then o.wp P a w K Q else K (a.put o.dst undef) w:=by
 obtain ⟨hd,ho⟩:=Gm hop
 rcases hy with ⟨h1,h,h2,h3,h4⟩ | ⟨h1,rfl⟩
 ·rw [FK hr hg h1]
  exact h2 C s a w hr rfl h3 h4 hd ho K Q hK
 ·rw [FK hr hg h1]
  obtain ⟨β,ok,hr⟩:=hr
  exact hK _ _ ⟨β,ok,hr.put hd .undef⟩
structure Apart (x y:Y):Prop where
 wr:∀ k r,(k,r)∈x.δ→k∉y.rd∧∀ r',(k,r')∉y.δ
 rw:∀ k r,(k,r)∈y.δ→k∉x.rd
 nw:∀ i∈x.nw,i∉y.nw
theorem Apart.symm {x y:Y} (h:Apart x y):Apart y x:=
 ⟨fun k r hk=>⟨h.rw k r hk,fun r' hr'=>(h.wr k r' hr').2 r hk⟩,fun k r hk=>(h.wr k r hk).1,fun i hi hi'=>h.nw i hi' hi⟩
theorem nZ {h:Key→Option Res} {δ:List (Key×Option Res)} {k:Key} (hk:∀ r,(k,r)∉δ):jX h δ k=h k:=by
 rcases dP h δ k with ⟨e,_⟩ | ⟨r,hm,_⟩
 ·exact e
 ·exact absurd hm (hk r)
theorem ZO {s:S} {dst:Option Tmp} {x:V} {δ:List (Key×Option Res)} {nw:List Nat} {y:Operand} (h:∀ d,dst=some d→y ≠ .tmp d):(s.apply dst x δ nw).ev y=s.ev y:=by
 cases y with
 | tmp t=>
   show (if dst=some t then x else s.env t)=s.env t
   rw [if_neg]
   intro e
   exact h t e rfl
 | _=>rfl
theorem L9 {ops:Array Oper} {o:Oper} {d:Tmp} (h : .tmp d∈o.op.operands.toList):d∈o.looksAt ops:=
 List.mem_append_left _ (List.mem_filterMap.2 ⟨.tmp d,by simpa using h,rfl⟩)
theorem EU {ops:Array Oper} {o:Oper} {s:S} {dst:Option Tmp} {x:V} {δ:List (Key×Option Res)} {nw:List Nat} (h:∀ d,dst=some d→d∉o.looksAt ops) :
  fD ops o (s.apply dst x δ nw)=fD ops o s:=by
 unfold fD
 cases hg:o.guard with
 | none=>rfl
 | some gw=>
   obtain ⟨j,want⟩:=gw
   simp only
   cases hd:(ops[j]?).bind (·.dst) with
   | none=>rfl
   | some d=>
     have hl:d∈o.looksAt ops:=List.mem_append_right _ (by simp only [hg];rw [hd];simp)
     have:(s.apply dst x δ nw).env d=s.env d:=by
      show (if dst=some d then x else s.env d)=s.env d
      rw [if_neg]
      intro e
      exact h d e hl
     simp only [this]
theorem Yields.over {P:Program} {ops:Array Oper} {oi oj:Oper} {yi yj:Y} {s:S} (hap:Apart yi yj) (h:∀ d,oi.dst=some d→d∉oj.looksAt ops):Yields P ops oj yj (s.after oi yi)↔Yields P ops oj yj s:=by
 have hw:fD ops oj (s.after oi yi)=fD ops oj s:=EU h
 have hops:oj.op.operands.toList.map (s.after oi yi).ev=oj.op.operands.toList.map s.ev:=List.map_congr_left fun y hy=>ZO fun d hd e=>h d hd (L9 (e ▸ hy))
 have hh:∀ k∈yj.rd,(s.after oi yi).hp k=s.hp k:=fun k hk=>nZ fun r hr=>(hap.wr k r hr).1 hk
 have hu:∀ i∈yj.nw,((s.after oi yi).used i↔s.used i):=fun i hi=>⟨fun h=>h.elim id (fun h'=>absurd hi (hap.nw i h')),fun h => .inl h⟩
 unfold Yields
 rw [hw,hops]
 constructor
 ·rintro (⟨h1,h',h2,h3,h4⟩ | h1)
  ·exact .inl ⟨h1,h',h2,fun k hk=>(hh k hk).symm.trans (h3 k hk),fun i hi hu'=>h4 i hi ((hu i hi).2 hu')⟩
  ·exact .inr h1
 ·rintro (⟨h1,h',h2,h3,h4⟩ | h1)
  ·exact .inl ⟨h1,h',h2,fun k hk=>(hh k hk).trans (h3 k hk),fun i hi hu'=>h4 i hi ((hu i hi).1 hu')⟩
  ·exact .inr h1
theorem Ip (h h':Key→Option Res) {k:Key}:∀ {δ:List (Key×Option Res)} {r:Option Res},(k,r)∈δ→jX h δ k=jX h' δ k
 | [],r,hm=>by cases hm
 | (k',r')::l,r,hm=>by
   by_cases e:k'=k
   ·simp [jX,e]
   ·rcases List.mem_cons.1 hm with hm | hm
    ·cases hm;exact absurd rfl e
    ·simp only [jX,if_neg e];exact Ip h h' hm
theorem Qd {s:S} {oi oj:Oper} {yi yj:Y} (hap:Apart yi yj) (h:∀ d,oi.dst=some d→oj.dst≠some d):(s.after oi yi).after oj yj=(s.after oj yj).after oi yi:=by
 unfold S.after S.apply
 congr 1
 ·funext t
  by_cases e1:oj.dst=some t<;>by_cases e2:oi.dst=some t<;>simp [e1,e2]
  exact absurd e1 (h t e2)
 ·funext k
  show jX (jX s.hp yi.δ) yj.δ k=jX (jX s.hp yj.δ) yi.δ k
  rcases dP s.hp yi.δ k with ⟨e,hno⟩ | ⟨r,hm,e⟩
  ·rw [nZ (h:=jX s.hp yj.δ) hno]
   rcases dP s.hp yj.δ k with ⟨e',hno'⟩ | ⟨r',hm',e'⟩
   ·rw [nZ hno',nZ hno',nZ hno]
   ·exact Ip _ _ hm'
  ·rw [nZ (h:=jX s.hp yi.δ) (hap.wr k r hm).2]
   exact Ip _ _ hm
 ·funext i
  exact propext ⟨fun h=>h.elim (fun h'=>h'.elim (fun h'' => .inl (.inl h'')) (fun h'' => .inr h'')) (fun h' => .inl (.inr h')),
   fun h=>h.elim (fun h'=>h'.elim (fun h'' => .inl (.inl h'')) (fun h'' => .inr h'')) (fun h' => .inl (.inr h'))⟩
section
variable {P:Program} {ops:Array Oper} {md:Region.Mode}
def abh (P:Program) (md:Region.Mode) (ops:Array Oper) (ys:Nat→Y) (K:S→Prop):Nat→Array Bool→S→Prop
 | 0,listed,s=>Region.ready md ops listed=[]∧K s
 | fuel+1,listed,s=>(Region.ready md ops listed=[]→K s) ∧
   ∀ i∈Region.ready md ops listed,∀ o,ops[i]?=some o→Yields P ops o (ys i) s∧abh P md ops ys K fuel (listed.setIfInBounds i true) (s.after o (ys i))
def Cm (nt:Nat) (ops:Array Oper):Bool:=ops.toList.all (Xw nt)
theorem vG {nt:Nat} (h:Cm nt ops=true) {i:Nat} {o:Oper} (hi:ops[i]?=some o):Xw nt o=true:=
 List.all_eq_true.1 h o (by have:=Array.mem_of_getElem? hi;simpa using this)
theorem Nj {nt:Nat} (h:Cm nt ops=true) (o:Oper):∀ j want,o.guard=some (j,want)→∀ d,(ops[j]?).bind (·.dst)=some d→d<nt:=fun j want _ d hd=>by
 cases hj:ops[j]? with
 | none=>rw [hj] at hd;cases hd
 | some oj=>
   rw [hj] at hd
   exact (Gm (vG h hj)).1 d hd
theorem tX {C:Ctx} (hok:Cm C.nt ops=true) {ys:Nat→Y} {K:S→Prop} {Q:Exit→Act→World→Prop} (hQ:∀ s a w,Rel C s a w→K s→Q .normal a w) :
  ∀ (fuel:Nat) (listed:Array Bool) (s:S) (a:Act) (w:World),Rel C s a w→abh P md ops ys K fuel listed s→wpAny P md ops Q fuel listed a w
 | 0,listed,s,a,w,hr,h=>⟨h.1,hQ s a w hr h.2⟩
 | fuel+1,listed,s,a,w,hr,h=>⟨fun h0=>hQ s a w hr (h.1 h0),fun i hi=>by
   obtain ⟨_,o,ho,_⟩:=mem_ready.1 hi
   obtain ⟨h1,h2⟩:=h.2 i hi o ho
   unfold wpOp
   simp only [ho]
   have:=BF (Q:=Q) hr (vG hok ho) (Nj hok o) h1 (K:=wpAny P md ops Q fuel (listed.setIfInBounds i true)) (fun a' w' hr'=>tX hok hQ fuel _ _ a' w' hr' h2)
   split
   ·rename_i hw;rw [if_pos hw] at this;exact .inl this
   ·rename_i hw;rw [if_neg hw] at this;exact this⟩
theorem Qa {ys:Nat→Y} {K:S→Prop} {i:Nat} {oi:Oper} (hi:ops[i]?=some oi) :
  ∀ (fuel:Nat) (listed:Array Bool) (s:S),
    (∀ j oj,ops[j]?=some oj→j≠i→listed.getD j true=false→(∀ e∈oj.after,Region.binds md e=true→e.on≠i)→oi.apart ops oj=true∧Apart (ys i) (ys j)) →
    i∈Region.ready md ops listed→Yields P ops oi (ys i) s →
    abh P md ops ys K fuel (listed.setIfInBounds i true) (s.after oi (ys i))→abh P md ops ys K (fuel+1) listed s:=by
 intro fuel
 induction fuel with
 | zero=>
   intro listed s _ hr hy H
   refine ⟨fun h=>(by rw [h] at hr;cases hr),fun j hj o ho=>?_⟩
   by_cases hji:j=i
   ·subst hji;rw [hi] at ho;cases ho;exact ⟨hy,H⟩
   ·have:=ready_mono hj hji
    rw [H.1] at this
    cases this
 | succ fuel ih=>
   intro listed s hfree hr hy H
   refine ⟨fun h=>(by rw [h] at hr;cases hr),fun j hj oj hoj=>?_⟩
   by_cases hji:j=i
   ·subst hji;rw [hi] at hoj;cases hoj;exact ⟨hy,H⟩
   ·obtain ⟨hjun,o2,ho2,hall⟩:=mem_ready.1 hj
    rw [hoj] at ho2
    cases ho2
    obtain ⟨h1,h2⟩:=H.2 j (ready_mono hj hji) oj hoj
    have hnot:∀ e∈oj.after,Region.binds md e=true→e.on≠i:=fun e he hb heq=>by
     have h1:=hall e he hb
     have h0:=(mem_ready.1 hr).1
     rw [heq] at h1
     rcases Nat.lt_or_ge i listed.size with h' | h'
     ·simp [h'] at h0 h1;rw [h0] at h1;cases h1
     ·simp [Array.getElem?_eq_none h'] at h1
    obtain ⟨hap,hap2⟩:=hfree j oj hoj hji hjun hnot
    obtain ⟨p1,p2,p3⟩:=Oper.apart_spec hap
    have hyj:Yields P ops oj (ys j) s:=(Yields.over hap2 p1).1 h1
    have hyi:Yields P ops oi (ys i) (s.after oj (ys j)):=(Yields.over hap2.symm p3).2 hy
    refine ⟨hyj,ih (listed.setIfInBounds j true) (s.after oj (ys j)) ?_ (ready_mono hr (Ne.symm hji)) hyi ?_⟩
    ·intro k ok hk hki hun hno
     refine hfree k ok hk hki ?_ hno
     by_cases hjk:j=k
     ·subst hjk;exact hjun
     ·rw [getD_set_ne true hjk] at hun;exact hun
    ·rw [Array.setIfInBounds_comm _ _ hji,← Qd hap2 p2]
     exact h2
def Vl (P:Program) (ops:Array Oper) (ys:Nat→Y) (K:S→Prop):List Oper→Nat→S→Prop
 | [],_,s=>K s
 | o::l,k,s=>Yields P ops o (ys k) s∧Vl P ops ys K l (k+1) (s.after o (ys k))
def NY (md:Region.Mode) (ops:Array Oper) (ys:Nat→Y):Prop:=
 ∀ i j oj,ops[j]?=some oj→i<j→(∀ e∈oj.after,Region.binds md e=true→e.on≠i)→Apart (ys i) (ys j)
theorem NV {ys:Nat→Y} {K:S→Prop} (hap:NY md ops ys):∀ (l:List Oper) (k:Nat) (listed:Array Bool) (s:S),(∀ j,l[j]?=ops[k+j]?) →
  (∀ j,j<k→listed.getD j true=true)→Region.lexFrom md ops l.length k listed=true→Vl P ops ys K l k s→abh P md ops ys K l.length listed s
 | [],_,_,_,_,_,hB,h=>⟨by simpa [Region.lexFrom] using hB,h⟩
 | o::l,k,listed,s,hl,hlist,hB,h=>by
   have h0:ops[k]?=some o:=by simpa using (hl 0).symm
   simp only [List.length_cons,Region.lexFrom,Bool.and_eq_true] at hB
   obtain ⟨⟨hr,hf⟩,hB'⟩:=hB
   have hfree:=Region.free_spec h0 hf
   have hr':k∈Region.ready md ops listed:=by simpa using hr
   refine Qa h0 l.length listed s (fun j oj hj hne hun hno=>⟨hfree j oj hj hne hun hno,hap k j oj hj ?_ hno⟩) hr' h.1
    (NV hap l (k+1) _ _ (fun j=>by have:=hl (j+1);simpa [Nat.add_assoc,Nat.add_comm 1 j] using this) (fun j hj=>?_) hB' h.2)
   ·rcases Nat.lt_or_ge k j with h' | h'
    ·exact h'
    ·have:=hlist j (by omega)
     rw [hun] at this;cases this
   ·by_cases e:k=j
    ·subst e
     have hsz:k<listed.size:=by
      have:=(mem_ready.1 hr').1
      rcases Nat.lt_or_ge k listed.size with h' | h'
      ·exact h'
      ·simp [Array.getElem?_eq_none h'] at this
     simp [hsz]
    ·rw [getD_set_ne true e]
     exact hlist j (by omega)
theorem Aj {C:Ctx} {id:Nat} (hm:P.follows .mixedOrders=true) (hB:Region.lexB .any ops=true) (hok:Cm C.nt ops=true) {ys:Nat→Y} (hap:NY .any ops ys) {K:S→Prop} {Q:Exit→Act→World→Prop}
  (hQ:∀ s a w,Rel C s a w→K s→Q .normal a w) {s:S} {a:Act} {w:World} (hr:Rel C s a w) (h:Vl P ops ys K ops.toList 0 s):(Code.region id ops true).wp P Q a w:=by
 simp only [Region.lexB,Bool.and_eq_true] at hB
 refine wp_region_any hm (tX (ys:=ys) hok hQ ops.size _ s a _ hr.drew ?_)
 have:=NV (ys:=ys) hap ops.toList 0 (Array.replicate ops.size false) s (by simp) (fun j hj=>by omega) (by simpa using hB.2) h
 simpa using this
theorem zB {C:Ctx} (hok:Cm C.nt ops=true) {ys:Nat→Y} {K:S→Prop} {Q:Exit→Act→World→Prop} (hQ:∀ s a w,Rel C s a w→K s→Q .normal a w) :
  ∀ (l:List Oper) (k:Nat),(∀ o∈l,o∈ops)→∀ (s:S) (a:Act) (w:World),Rel C s a w→Vl P ops ys K l k s→wpList P ops Q l a w
 | [],k,_,s,a,w,hr,h=>hQ s a w hr h
 | o::l,k,hl,s,a,w,hr,h=>by
   obtain ⟨i,hi⟩:=Array.getElem?_of_mem (hl o (by simp))
   have:=BF (Q:=Q) hr (vG hok hi) (Nj hok o) h.1 (K:=wpList P ops Q l) (fun a' w' hr'=>zB hok hQ l (k+1) (fun o ho=>hl o (by simp [ho])) _ a' w' hr' h.2)
   unfold wpList
   split
   ·rename_i hw;rw [if_pos hw] at this;exact .inl this
   ·rename_i hw;rw [if_neg hw] at this;exact this
theorem Bg {C:Ctx} {id:Nat} (hok:Cm C.nt ops=true) {ys:Nat→Y} {K:S→Prop} {Q:Exit→Act→World→Prop} (hQ:∀ s a w,Rel C s a w→K s→Q .normal a w)
  {s:S} {a:Act} {w:World} (hr:Rel C s a w) (h:Vl P ops ys K ops.toList 0 s):(Code.region id ops false).wp P Q a w:=
 wp_region_list (zB hok hQ ops.toList 0 (fun o ho=>by simpa using ho) s a w hr h)
end
end Go.Abs
