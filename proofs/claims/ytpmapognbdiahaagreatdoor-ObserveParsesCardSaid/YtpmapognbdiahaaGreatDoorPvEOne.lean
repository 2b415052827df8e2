/- observe.Parse, walked. -/
import Derived.Test.YtpmapognbdiahaaGreatDoorLnBAnd
set_option linter.all false
namespace Go.Proofs
open Go Go.RowKit Go.Shelf Go.Abs Go.Own Go.Proofs.YtpmapognbdiahaaGreatDoor
attribute [local go_sem] Oper.semAt_some
def Jh (res:Option (List Sn)) (w:World) (e:Ending) (w':World):Prop:=
 Below w.heap.size w w'∧((∃ x val,res=some x∧e = .returned (.tuple #[val,.int .i64 0])∧∃ B,w.heap.size≤B∧bV B 44 3 w' val (x.map enS)) ∨
  (res=none∧e = .returned (.tuple #[.slice none 0 0,.int .i64 1])))
theorem ag4 {ok:Nat→Prop} {w:World} {v:Value} {x:Sn} (h:RdD ok w v (enS x)):∃ a1 c1 a2 c2,v = .agg #[.string ⟨x.1.name.toArray⟩,.slice a1 x.1.args.length c1,.slice a2 x.2.length c2]:=by
 unfold enS at h;generalize hd:[D.str x.1.name,.list (x.1.args.map enT),.list (x.2.map enT)]=ds at h;cases h with
 | agg vs cs hl h1 h2=>
   subst hd;obtain ⟨vs⟩:=vs
   match vs,hl with
   | [u0,u1,u2],_=>
     have g0:=h1 0 u0 _ rfl rfl;obtain ⟨a1,c1,e1,_⟩:=rdl (h1 1 u1 _ rfl rfl);obtain ⟨a2,c2,e2,_⟩:=rdl (h1 2 u2 _ rfl rfl);cases g0;subst e1;subst e2;exact ⟨_,_,_,_,rfl⟩
def Tryz.WJ (s:Str) (w:World) (r:Str) (W:World):Prop:=
 ∃ (acc:List Sn) (v:Value),wG s r acc∧W.heap[w.heap.size]?=some (.cells #[.slice none 0 0] 23 (0,0))∧W.heap[w.heap.size+1]?=some (.cells #[.int .i64 0] 24 (0,0)) ∧
   W.heap[w.heap.size+2]?=some (.cells #[v] 23 (0,0))∧bV (w.heap.size+6) 44 3 W v (acc.map enS)∧w.heap.size+6≤W.heap.size∧Below w.heap.size w W
def Tryz.agS (s:Str) (w W:World):Prop:=
 W.heap[w.heap.size]?=some (.cells #[.slice none 0 0] 23 (0,0))∧W.heap[w.heap.size+1]?=some (.cells #[.int .i64 1] 24 (0,0))∧Below w.heap.size w W∧yX s=none
set_option maxHeartbeats 2000000 in
set_option maxRecDepth 100000 in
theorem Tryz.J8 (s:Str) (hs:s.length≤2000) (w:World) (hW:Tryz.Env w) :
  Calls Tryz.prog 5 #[.string ⟨s.toArray⟩] w (Jh (yX s) w):=by
 replace hW:=hid hW
 have hnl:¬ (16384:Int)<(s.length:Int):=by omega
 refine (callsIn_wide (n:=6)).1 ?_;refine callsIn_of_wp_marks Tryz.func5 rfl trivial ?_ rfl;simp only [Tryz.ntmps5,List.size_toArray,List.length_cons,List.length_nil,Nat.reduceAdd,Nat.reduceSub,Array.replicate_succ,Array.replicate_zero,List.push_toArray,List.append_toArray,List.nil_append,List.cons_append]
 gi_wp2_with (refine ⟨trivial,?_⟩;gi_at_call 17;refine (callsIn_wide.2 (Tryz.aeK _ _)).mono ?_;rintro e w' ⟨rfl,rfl⟩)
 obtain ⟨W0,hW0⟩:∃ W0,((((w.alloc (Obj.cells #[Value.slice none 0 0] 23)).alloc (Obj.cells #[Value.int IntKind.i64 0] 24)).alloc (Obj.cells #[Value.slice none 0 0] 23)).alloc (Obj.cells #[Value.string ⟨s.toArray⟩] 9))=W0:=⟨_,rfl⟩
 have hs0:W0.heap.size=w.heap.size+4:=by rw [← hW0];simp
 have hB0:Below w.heap.size w W0:=by rw [← hW0];exact ((((Below.refl _ w).alloc (Nat.le_refl _) _).alloc (by simp;try omega) _).alloc (by simp;try omega) _).alloc (by simp;try omega) _
 have hv2:W0.heap[w.heap.size]?=some (.cells #[.slice none 0 0] 23 (0,0)):=by rw [← hW0];exact (@Go.heap_alloc_old _ _ _ (by simp;try omega)).trans ((@Go.heap_alloc_old _ _ _ (by simp;try omega)).trans ((@Go.heap_alloc_old _ _ _ (by simp;try omega)).trans (heap_alloc_new _ _)))
 have hv3:W0.heap[w.heap.size+1]?=some (.cells #[.int .i64 0] 24 (0,0)):=by rw [← hW0];exact (@Go.heap_alloc_old _ _ _ (by simp;try omega)).trans ((@Go.heap_alloc_old _ _ _ (by simp;try omega)).trans (by have:=heap_alloc_new (w.alloc (Obj.cells #[Value.slice none 0 0] 23)) (Obj.cells #[Value.int IntKind.i64 0] 24);rwa [World.size_alloc] at this))
 have hv4:W0.heap[w.heap.size+2]?=some (.cells #[.slice none 0 0] 23 (0,0)):=by rw [← hW0];exact (@Go.heap_alloc_old _ _ _ (by simp;try omega)).trans (by have:=heap_alloc_new ((w.alloc (Obj.cells #[Value.slice none 0 0] 23)).alloc (Obj.cells #[Value.int IntKind.i64 0] 24)) (Obj.cells #[Value.slice none 0 0] 23);rwa [World.size_alloc,World.size_alloc] at this)
 have hv5:W0.heap[w.heap.size+3]?=some (.cells #[.string ⟨s.toArray⟩] 9 (0,0)):=by rw [← hW0];have:=heap_alloc_new (((w.alloc (Obj.cells #[Value.slice none 0 0] 23)).alloc (Obj.cells #[Value.int IntKind.i64 0] 24)).alloc (Obj.cells #[Value.slice none 0 0] 23)) (Obj.cells #[Value.string ⟨s.toArray⟩] 9);rwa [World.size_alloc,World.size_alloc,World.size_alloc] at this
 rw [hW0];clear hW0;refine Tryz.Sl s (w.heap.size+3) (by omega) rfl rfl (by omega) hv5 (Tryz.WJ s w) (Tryz.agS s w) ?I ?Ix (fun r=>{ tmps:=#[.string ⟨s.toArray⟩,undef,.pointer (some ⟨w.heap.size,0,none⟩),.pointer (some ⟨w.heap.size+1,0,none⟩),.pointer (some ⟨w.heap.size+1+1,0,none⟩),.string ⟨(mM r).toArray⟩,undef,undef,.string ⟨s.toArray⟩,.int .i64 s.length,.bool false,.string ⟨s.toArray⟩,.func (.func 49) #[] #[.pointer (some ⟨w.heap.size+1+1+1,0,none⟩)],.string ⟨(mM r).toArray⟩,undef,undef,undef,undef,undef,undef,undef,undef,undef,undef,undef,undef,undef,undef,undef,undef,undef],defers:=[] }) ?start ?assign ?body ?done ?stop
 case I=>
  rintro r W W' ⟨acc,v,hC,h2,h3,h4,hR,hz,hB⟩ ha;have ho:=fun k (hk:k<w.heap.size+3∨w.heap.size+6≤k)=>ha.old k (by omega) (by omega) (by omega)
  exact ⟨acc,v,hC,(ho _ (.inl (by omega))).trans h2,(ho _ (.inl (by omega))).trans h3,(ho _ (.inl (by omega))).trans h4,hR.keep (by rw [ha.size];exact Nat.le_refl _) (fun b hb _=>ho b (.inr hb)),by rw [ha.size];exact hz,
   ha.os.trans hB.os,ha.tape.trans hB.tape,ha.output.trans hB.output,by rw [ha.size];exact hB.size,fun k hk=>(ho k (.inl (by omega))).trans (hB.block k hk)⟩
 case Ix=>
  rintro W W' ⟨h2,h3,hB,hn⟩ ha;have ho:=fun k (hk:k<w.heap.size+3)=>ha.old k (by omega) (by omega) (by omega)
  exact ⟨(ho _ (by omega)).trans h2,(ho _ (by omega)).trans h3,⟨ha.os.trans hB.os,ha.tape.trans hB.tape,ha.output.trans hB.output,by rw [ha.size];exact hB.size,fun k hk=>(ho k (by omega)).trans (hB.block k hk)⟩,hn⟩
 case start=>
  intro W h1 h2 h3 h4 h5;exact ⟨[],_,wG.start s,(h2 _ (by omega)).trans hv2,(h2 _ (by omega)).trans hv3,(h2 _ (by omega)).trans hv4,.nil,by omega,h3.trans hB0.os,h4.trans hB0.tape,h5.trans hB0.output,by omega,fun k hk=>(h2 k (by omega)).trans (hB0.block k hk)⟩
 case assign=>
  intro r l W K hK
  gi_wp2
  exact hK
 case body=>
  rintro r l W hr hrl ⟨acc,v,hC,h2,h3,h4,hR,hz,hB⟩;obtain ⟨n1,n2,n3⟩:=CU hr;have cT:=Tryz.agU (mM r) (by omega) W;rw [Jr] at cT;have cL:=fun W4 hb=>Tryz.ahh (r.takeWhile (· != 10)) (by omega) W4 (hW.out.keep hb)
  have hbad:=hid (fun h=>hC.bad hr h);have hstep:=hid (fun x h=>hC.step (x:=x) hr h);generalize r.takeWhile (· != 10)=ln at *;generalize mF ln=res at *
  replace cL:=hid cL
  gi_wp2_with (first
   | (refine ⟨trivial,?_⟩;gi_at_call 19;refine (CallsIn.inRound l (callsIn_wide.2 cT)).mono ?_;rintro e W4 ⟨rfl,hB4⟩;have hsz4:=hB4.size;have hBW4:=hB.trans (hB4.mono (show w.heap.size≤W.heap.size by omega)))
   | (refine ⟨trivial,?_⟩;gi_at_call 18;refine (CallsIn.inRound l (callsIn_wide.2 (cL.out W4 hBW4))).mono ?_;rintro e W5 ⟨hB5,⟨x,val,rfl,rfl,hd⟩ | ⟨rfl,rfl⟩⟩<;>refine Hid.out ?_))
  ·obtain ⟨a1,c1,a2,c2,rfl⟩:=ag4 hd;have hsz5:=hB5.size;obtain ⟨W6,hW6⟩:∃ W,W5.alloc (.cells #[.string ⟨x.1.name.toArray⟩,.slice a1 x.1.args.length c1,.slice a2 x.2.length c2] 44)=W:=⟨_,rfl⟩
   have hs6:W6.heap.size=W5.heap.size+1:=(by rw [← hW6];simp);have hB56:Below W5.heap.size W5 W6:=(by rw [← hW6];exact (Below.refl _ _).alloc (Nat.le_refl _) _);have x6:W6.heap[W5.heap.size]?=some (.cells #[.string ⟨x.1.name.toArray⟩,.slice a1 x.1.args.length c1,.slice a2 x.2.length c2] 44 (0,0)):=(by rw [← hW6];exact heap_alloc_new _ _);have hk6:∀ k,k<W.heap.size→W6.heap[k]?=W.heap[k]?:=fun k hk=>(hB56.block k (by omega)).trans ((hB5.block k (by omega)).trans (hB4.block k hk))
   have hdx:=hd.mono (ok':=fun b=>W.heap.size≤b∧b<W6.heap.size) (fun b hb=>hB56.block b hb.2) (fun b hb=>⟨by omega,by omega⟩);obtain ⟨r1,r2,r3⟩:=hR.ready (by omega) (w6:=W6) (by omega) (fun b _ hb=>hk6 b hb) #[.string ⟨x.1.name.toArray⟩,.slice a1 x.1.args.length c1,.slice a2 x.2.length c2] _ hdx;have hB6:=hid (show Below w.heap.size w W6 from (hBW4.trans (hB5.mono hBW4.size)).trans (hB56.mono (hBW4.trans (hB5.mono hBW4.size)).size));obtain ⟨av,cv,rfl⟩:=hR.shape;obtain ⟨d0,d1,d2,_,_,_⟩:=aX x6;have q4:=(hk6 _ (by omega)).trans h4;have c4:W6.cell? ⟨w.heap.size+1+1,0,none⟩=some (.slice av (acc.map enS).length cv):=(by simp [World.cell?,q4]);rw [List.length_map] at r1 r3 c4;rw [hs6] at r2
   replace r1:=hid r1
   replace r3:=hid r3
   replace hR:=hid hR
   have hstx:=hid (hstep.out x rfl);have hal:=hid (show (acc.map enS).length≤1000000000 by have:=hC.1;simp;omega);refine hid ?_
   gi_wp2_with (gi_at_builtin;refine AQ rfl _ _ _ rfl Tryz.GX rfl r1.out _ _ rfl (enS x) _ rfl r2 rfl r3.out hal.out ?_ ?_;rotate_left;intro v7 w7 hr7 hg7;obtain ⟨g7,cp7,rfl⟩:=hr7.shape;have hk7:∀ k,k<w.heap.size+6→w7.heap[k]?=W.heap[k]?:=(fun k hk=>(r1.out.far hg7 hk (by simp;omega)).trans ((@Go.heap_alloc_old _ _ _ (by omega)).trans (hk6 k (by omega))));have d4:=(hk7 _ (by omega)).trans h4;have e4:w7.cell? ⟨w.heap.size+1+1,0,none⟩=some (.slice av acc.length cv):=(by simp [World.cell?,d4]);have z4:w7.frozen? ⟨w.heap.size+1+1,0,none⟩=false:=(by simp [World.frozen?,d4]);simp only [List.length_append,List.length_map,List.length_singleton] at hr7;replace hr7:=hid hr7;rotate_left;simp;omega)
   have hg:=hg7.size;simp at hg;refine ⟨fun k hk=>(aA _ _ _ (by simp;omega)).trans (hk7 k (by omega)),acc++[x],_,hstx.out,(aA _ _ _ (by simp;omega)).trans ((hk7 _ (by omega)).trans h2),(aA _ _ _ (by simp)).trans ((hk7 _ (by omega)).trans h3),bC 0 _ d4,?_,by simp [World.setCell];omega,?_⟩
   ·rw [List.map_append];exact hr7.out.keep (w':=w7.setCell ⟨w.heap.size+1+1,0,none⟩ _) (by simp [World.setCell]) (fun b hb _=>aA _ _ _ (by simp;omega))
   ·have hb7:Below w.heap.size w w7:=⟨hg7.os.trans hB6.out.os,hg7.tape.trans hB6.out.tape,hg7.output.trans hB6.out.output,by have:=hB6.out.size;omega,fun k hk=>(hk7 k (by omega)).trans (hB.block k hk)⟩;exact hb7.setCell (p:=⟨w.heap.size+1+1,0,none⟩) (by simp;omega) _
  ·have hsz5:=hB5.size;obtain ⟨W6,hW6⟩:∃ W,W5.alloc (.cells #[.string ⟨#[]⟩,.slice none 0 0,.slice none 0 0] 44)=W:=⟨_,rfl⟩
   have hs6:W6.heap.size=W5.heap.size+1:=(by rw [← hW6];simp);have hk6:∀ k,k<W.heap.size→W6.heap[k]?=W.heap[k]?:=fun k hk=>by rw [← hW6];exact (@Go.heap_alloc_old _ _ _ (by omega)).trans ((hB5.block k (by omega)).trans (hB4.block k hk))
   have hB6:=hid (show Below w.heap.size w W6 by rw [← hW6];exact (hBW4.trans (hB5.mono hBW4.size)).alloc (by omega) _);have q2:=(hk6 _ (by omega)).trans h2;have q3:=(hk6 _ (by omega)).trans h3;have c2:W6.cell? ⟨w.heap.size,0,none⟩=some (.slice none 0 0):=(by simp [World.cell?,q2]);have z2:W6.frozen? ⟨w.heap.size,0,none⟩=false:=(by simp [World.frozen?,q2]);have c3:W6.cell? ⟨w.heap.size+1,0,none⟩=some (.int .i64 0):=(by simp [World.cell?,q3]);have z3:W6.frozen? ⟨w.heap.size+1,0,none⟩=false:=(by simp [World.frozen?,q3]);subst hW6;refine hid ?_
   gi_wp2
   refine ⟨fun k hk=>(aA _ _ _ (by simp;omega)).trans ((aA _ _ _ (by simp;omega)).trans (hk6 k (by omega))),(aA _ _ _ (by simp)).trans (bC 0 _ q2),bC 0 _ ((aA _ _ _ (by simp)).trans q3),(hB6.out.setCell (p:=⟨w.heap.size,0,none⟩) (Nat.le_refl _) _).setCell (p:=⟨w.heap.size+1,0,none⟩) (Nat.le_succ _) _,hbad.out (by trivial)⟩
 case done=>
  rintro W ⟨acc,v,hC,h2,h3,h4,hR,hz,hB⟩ hK;obtain ⟨hl,hp,hpro⟩:=hC.text hs;obtain ⟨av,cv,rfl⟩:=hR.shape;have hrd:=hR.rd (by decide);have cX:=Tryz.Rt acc W _ (hrd.mono (fun _ _=>rfl) (fun _ h=>h.2)) hl hp;rw [List.length_map] at cX h4;have c4:W.cell? ⟨w.heap.size+1+1,0,none⟩=some (.slice av acc.length cv):=by simp [World.cell?,h4]
  have hrd':=hid hR;generalize bI acc=tx at *;clear hrd hR hl
  gi_wp2_with (refine ⟨trivial,?_⟩;gi_at_call 15;refine (callsIn_wide.2 cX).mono ?_;rintro e W6 ⟨rfl,hB6⟩;refine Hid.out ?_)
  have k6:∀ k,k<W.heap.size→W6.heap[k]?=W.heap[k]?:=hB6.block;have hB7:=hid (hB.trans (hB6.mono hB.size));have hz6:=hB6.size;have q2:=(k6 _ (by omega)).trans h2;have q3:=(k6 _ (by omega)).trans h3;have q4:=(k6 _ (by omega)).trans h4;have hk6:=hid ((k6 _ (Array.getElem?_eq_some_iff.1 hK).1).trans hK);have fin:∀ x y:Value,let V:=(W6.setCell ⟨w.heap.size,0,none⟩ x).setCell ⟨w.heap.size+1,0,none⟩ y;∃ U,V.heap[w.heap.size+4]?=some (.deferred (some []))∧U=V.putObj (w.heap.size+4) (.deferred none)∧U.cell? ⟨w.heap.size,0,none⟩=some x∧U.cell? ⟨w.heap.size+1,0,none⟩=some y∧Below w.heap.size w U∧(∀ k,w.heap.size+6≤k→U.heap[k]?=W6.heap[k]?)∧W6.heap.size=U.heap.size:=by
   intro x y V;have a2:V.heap[w.heap.size]?=some (.cells #[x] 23 (0,0)):=(aA _ _ _ (by simp)).trans (bC 0 _ q2);have a3:V.heap[w.heap.size+1]?=some (.cells #[y] 24 (0,0)):=bC 0 _ ((aA _ _ _ (by simp)).trans q3);have a4:∀ k,w.heap.size+2≤k→V.heap[k]?=W6.heap[k]?:=fun k hk=>(aA _ _ _ (by simp;omega)).trans (aA _ _ _ (by simp;omega))
   have hBV:Below w.heap.size w V:=(hB7.out.setCell (p:=⟨w.heap.size,0,none⟩) (Nat.le_refl _) _).setCell (p:=⟨w.heap.size+1,0,none⟩) (Nat.le_succ _) _;have hsV:V.heap.size=W6.heap.size:=(by simp [V,World.setCell]);have hD:∀ k,k≠w.heap.size+4→(V.putObj (w.heap.size+4) (.deferred none)).heap[k]?=V.heap[k]?:=fun k hk=>World.putObj_heap_other hk
   refine ⟨_,(a4 _ (by omega)).trans (by have:=hk6.out;rwa [hs0] at this),rfl,by rw [Lib.cell_of_heap ((hD _ (by omega)).trans a2)];rfl,by rw [Lib.cell_of_heap ((hD _ (by omega)).trans a3)];rfl,⟨hBV.os,hBV.tape,hBV.output,by simpa using hBV.size,fun k hk=>(hD k (by omega)).trans (hBV.block k hk)⟩,fun k hk=>(hD k (by omega)).trans (a4 k (by omega)),by simp [hsV]⟩
  replace fin:=hid fin
  have p2:W6.cell? ⟨w.heap.size,0,none⟩=some (.slice none 0 0):=by simp [World.cell?,q2]
  have p3:W6.cell? ⟨w.heap.size+1,0,none⟩=some (.int .i64 0):=by simp [World.cell?,q3]
  have p4:W6.cell? ⟨w.heap.size+1+1,0,none⟩=some (.slice av acc.length cv):=by simp [World.cell?,q4]
  have z2:W6.frozen? ⟨w.heap.size,0,none⟩=false:=by simp [World.frozen?,q2]
  have z3:W6.frozen? ⟨w.heap.size+1,0,none⟩=false:=by simp [World.frozen?,q3]
  by_cases he:tx=s
  ·subst he;rw [if_pos rfl] at hpro
   replace hpro:=hid hpro
   refine hid ?_
   gi_wp2
   obtain ⟨U,u1,u2,u3,u4,u5,u6,u7⟩:=fin.out (.slice av acc.length cv) (.int .i64 0);refine ⟨by simp,.inl ⟨_,_,rfl,run_takeDeferred u1,?_⟩⟩;rw [← u2];refine ⟨.tuple #[.slice av acc.length cv,.int .i64 0],by simp [results,Tryz.results5,go_sem,u3,u4],u5,.inl ⟨acc,_,hpro.out,rfl,?_⟩⟩;have:=hrd'.out;rw [List.length_map] at this;exact ⟨w.heap.size+6,by omega,this.keep (by omega) (fun b h1 h2=>(u6 b h1).trans (k6 b h2))⟩
  ·rw [if_neg he] at hpro
   replace hpro:=hid hpro
   have hne:(tx==s)=false:=(by simpa using he);refine hid ?_
   gi_wp2
   obtain ⟨U,u1,u2,u3,u4,u5,_,_⟩:=fin.out (.slice none 0 0) (.int .i64 1);refine ⟨by simp,.inl ⟨_,_,rfl,run_takeDeferred u1,?_⟩⟩;rw [← u2];exact ⟨.tuple #[.slice none 0 0,.int .i64 1],by simp [results,Tryz.results5,go_sem,u3,u4],u5,.inr ⟨hpro.out,rfl⟩⟩
 case stop=>
  rintro W ⟨h2,h3,hB,hn⟩ hK;have hD:∀ k,k≠W0.heap.size→(W.putObj W0.heap.size (.deferred none)).heap[k]?=W.heap[k]?:=fun k hk=>World.putObj_heap_other hk
  refine ⟨by simp,.inl ⟨_,_,rfl,run_takeDeferred hK,?_⟩⟩;have e2:(W.putObj W0.heap.size (.deferred none)).cell? ⟨w.heap.size,0,none⟩=some (.slice none 0 0):=by rw [Lib.cell_of_heap ((hD _ (by omega)).trans h2)];rfl
  have e3:(W.putObj W0.heap.size (.deferred none)).cell? ⟨w.heap.size+1,0,none⟩=some (.int .i64 1):=by rw [Lib.cell_of_heap ((hD _ (by omega)).trans h3)];rfl
  refine ⟨.tuple #[.slice none 0 0,.int .i64 1],by simp [results,Tryz.results5,go_sem,e2,e3],?_⟩;exact ⟨⟨hB.os,hB.tape,hB.output,by simpa using hB.size,fun k hk=>(hD k (by omega)).trans (hB.block k hk)⟩,.inr ⟨hn,rfl⟩⟩
end Go.Proofs
