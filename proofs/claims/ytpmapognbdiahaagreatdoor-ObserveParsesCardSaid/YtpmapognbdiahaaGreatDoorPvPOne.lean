/- Plain laws for the reference's line: how far a scan comes, what the rest of a line gives. -/
import Derived.Test.YtpmapognbdiahaaGreatDoorLnBAnd
import Derived.Test.YtpmapognbdiahaaGreatDoorSmAAnd
set_option linter.all false
namespace Go.Proofs
open Go Go.RowKit Go.Shelf Go.Abs Go.Own Go.Proofs.YtpmapognbdiahaaGreatDoor
theorem sH (c:UInt8):∀ (s:Str) (k:Nat),k≤s.length→(∀ j,j<k→s[j]?≠some c)→(k=s.length∨s[k]?=some c)→s.takeWhile (· != c)=s.take k∧s.dropWhile (· != c)=s.drop k
 | [],k,hk,_,_=>by
   obtain rfl:k=0:=by simpa using hk
   exact ⟨rfl,rfl⟩
 | d::s,0,_,_,h=>by
   have hd:d=c:=(by simpa using h);subst hd;simp
 | d::s,k+1,hk,h,he=>by
   have hd:d≠c:=fun e=>h 0 (by omega) (by rw [e];rfl)
   obtain ⟨e1,e2⟩:=sH c s k (by simpa using hk) (fun j hj=>h (j+1) (by omega)) (by simpa using he);simp [hd,e1,e2]
theorem DV:∀ (r:Str) (e:Nat),e≤r.length→(∀ k,k<e→(r.drop k).take 2≠[44,32])→(e=r.length→oz r=(r,none))∧((r.drop e).take 2=[44,32]→oz r=(r.take e,some (r.drop (e+2))))
 | [],e,he,_=>by
   obtain rfl:e=0:=by simpa using he
   exact ⟨fun _=>rfl,fun h=>by simp at h⟩
 | [c],e,he,h=>by
   refine ⟨fun _=>rfl,fun h2=>?_⟩
   match e,he with
   | 0,_=>simp at h2
   | 1,_=>simp at h2
 | c::d::r,0,_,_=>by
   refine ⟨fun h=>by simp at h,fun h=>?_⟩;have h':c=44∧d=32:=(by simpa using h);rw [oz,if_pos h'];simp
 | c::d::r,e+1,he,h=>by
   have h0:¬ (c=44∧d=32):=fun hh=>h 0 (by omega) (by rw [hh.1,hh.2];rfl)
   obtain ⟨i1,i2⟩:=DV (d::r) e (by simpa using he) (fun k hk=>h (k+1) (by omega));rw [oz,if_neg h0];refine ⟨fun h1=>by rw [i1 (by simpa using h1)],fun h2=>?_⟩;rw [i2 (by simpa using h2)];rfl
theorem pW {r:Str} {k:Nat}:(r.drop k).take 2=[44,32]↔r[k]?=some 44∧r[k+1]?=some 32:=by
 constructor
 ·intro h;have h0:=congrArg (fun l:Str=>l[0]?) h;have h1:=congrArg (fun l:Str=>l[1]?) h;simp at h0 h1;exact ⟨h0,h1⟩
 ·rintro ⟨h0,h1⟩;obtain ⟨l0,e0⟩:=List.getElem?_eq_some_iff.1 h0;obtain ⟨l1,e1⟩:=List.getElem?_eq_some_iff.1 h1;rw [List.drop_eq_getElem_cons l0,List.drop_eq_getElem_cons l1,e0,e1];rfl
def Lh (s:Str) (mv:Tm) (acc:List Tm) (rest:Str) (ok:Bool):Prop:=
 acc.length+rest.length≤s.length∧((ok=true∧((rest=[]∧jG s=some (mv,acc))∨(rest≠[]∧∃ f,rest.length<f∧jG s=(sW f acc.getLast? rest).map fun l=>(mv,acc++l))))∨(ok=false∧jG s=none))
theorem Eu {s:Str} {k:Nat} (hd:s.dropWhile (· != 58)=s.drop k) (h:(s.drop k).take 2≠[58,32]):jG s=none:=by
 rw [jG,hd];split
 ·rename_i r e;rw [e] at h;exact absurd rfl h
 ·rfl
theorem Xq {s:Str} {k:Nat} (ht:s.takeWhile (· != 58)=s.take k) (hd:s.dropWhile (· != 58)=s.drop k) (h:(s.drop k).take 2=[58,32]) :
  k+2≤s.length∧jG s=match sS (s.take k) with | none=>none | some t=>if s.drop (k+2)=[] then some (t,[]) else (sW ((s.drop (k+2)).length+1) none (s.drop (k+2))).map (t,·):=by
 have hl:=congrArg List.length h;simp at hl;obtain ⟨r,hr⟩:∃ r,s.drop k=58::32::r:=by
  match hm:s.drop k,h with
  | [a,b],h=>simp at h;exact ⟨[],by rw [h.1,h.2]⟩
  | a::b::c::r,h=>simp at h;exact ⟨c::r,by rw [h.1,h.2]⟩
 have hr2:s.drop (k+2)=r:=by rw [← List.drop_drop,hr];rfl
 refine ⟨by omega,?_⟩;rw [jG,hd,hr,hr2,ht];rfl
theorem Lh.start {s:Str} {k:Nat} {t:Tm} {ok:Bool} (ht:s.takeWhile (· != 58)=s.take k) (hd:s.dropWhile (· != 58)=s.drop k) (h:(s.drop k).take 2=[58,32]) (hT:(sS (s.take k)=some t∧ok=true)∨(sS (s.take k)=none∧ok=false)):Lh s t [] (s.drop (k+2)) ok:=by
 obtain ⟨hk,hn⟩:=Xq ht hd h;refine ⟨by simp,?_⟩;rcases hT with ⟨h1,rfl⟩ | ⟨h1,rfl⟩
 ·rw [h1] at hn;refine .inl ⟨rfl,?_⟩;by_cases hr:s.drop (k+2)=[]
  ·exact .inl ⟨hr,hn.trans (if_pos hr)⟩
  ·exact .inr ⟨hr,_,Nat.lt_succ_self _,hn.trans (if_neg hr)⟩
 ·rw [h1] at hn;exact .inr ⟨rfl,hn⟩
theorem Lh.term {s:Str} {mv:Tm} {acc:List Tm} {rest:Str} {t:Tm} {ok:Bool} {e:Nat} (h:Lh s mv acc rest true) (hr:rest≠[]) (he:e≤rest.length) (hs:∀ k,k<e→(rest.drop k).take 2≠[44,32])
  (hT:(sS (rest.take e)=some t∧ok=true)∨(sS (rest.take e)=none∧ok=false)) :
  (e=rest.length→(((ok&&!xJ acc.getLast? t)=true∧jG s=some (mv,acc++[t]))∨((ok&&!xJ acc.getLast? t)=false∧jG s=none))) ∧
  ((rest.drop e).take 2=[44,32]→Lh s mv (acc++[t]) (rest.drop (e+2)) ((ok&&!xJ acc.getLast? t)&&!decide (rest.drop (e+2)=[]))):=by
 obtain ⟨hl,h⟩:=h;obtain ⟨_,h⟩:=h.resolve_right (fun h=>by cases h.1);obtain ⟨_,f,hf,hn⟩:=h.resolve_left (fun h=>hr h.1);obtain ⟨c1,c2⟩:=DV rest e he hs;cases f with
 | zero=>omega
 | succ f=>
   rw [sW] at hn;constructor
   ·intro h1;have hc:=c1 h1;have ht:rest.take e=rest:=(by rw [h1,List.take_length]);rw [ht] at hT;rw [hc] at hn;rcases hT with ⟨h2,rfl⟩ | ⟨h2,rfl⟩
    ·rw [h2] at hn;simp only at hn;cases hb:xJ acc.getLast? t with
     | true=>rw [hb] at hn;exact .inr ⟨rfl,hn⟩
     | false=>rw [hb] at hn;exact .inl ⟨rfl,hn⟩
    ·rw [h2] at hn;exact .inr ⟨rfl,hn⟩
   ·intro h1;have hc:=c2 h1;rw [hc] at hn;have hl2:=congrArg List.length h1;simp at hl2;refine ⟨by simp;omega,?_⟩;rcases hT with ⟨h2,rfl⟩ | ⟨h2,rfl⟩
    ·rw [h2] at hn;simp only at hn;cases hb:xJ acc.getLast? t with
     | true=>rw [hb] at hn;exact .inr ⟨rfl,hn⟩
     | false=>
       rw [hb] at hn;simp only [Bool.false_eq_true,if_false] at hn;by_cases hz:rest.drop (e+2)=[]
       ·rw [if_pos hz] at hn;exact .inr ⟨by simp [hz],hn⟩
       ·rw [if_neg hz] at hn;refine .inl ⟨by simp [hz],.inr ⟨hz,f,by simp;omega,?_⟩⟩;rw [hn,List.getLast?_append];show _=Option.map _ (sW f (some t) _);cases sW f (some t) (rest.drop (e+2))<;>simp
    ·rw [h2] at hn;exact .inr ⟨rfl,hn⟩
def Lj (res:Option Sn) (w:World) (e:Ending) (w':World):Prop:=
 Below w.heap.size w w'∧∃ x val b,e = .returned (.tuple #[val,.bool b])∧RdD (fun b=>w.heap.size≤b∧b<w'.heap.size) w' val (enS x)∧((res=some x∧b=true)∨(res=none∧b=false))
set_option maxHeartbeats 4000000 in
set_option maxRecDepth 100000 in
theorem Tryz.aeL (s:Str) (hs:s.length≤16384) (w:World) :
  Calls Tryz.prog 20 #[.string ⟨s.toArray⟩] w (Lj (jG s) w):=by
 obtain ⟨W0,hW0⟩:∃ W,w.alloc (.cells #[.string ⟨#[]⟩,.slice none 0 0,.slice none 0 0] 44)=W:=⟨_,rfl⟩
 have hs0:W0.heap.size=w.heap.size+1:=by rw [← hW0];simp
 have hB0:Below w.heap.size w W0:=by rw [← hW0];exact (Below.refl _ w).alloc (Nat.le_refl _) _
 have y0:W0.heap[w.heap.size]?=some (.cells #[.string ⟨#[]⟩,.slice none 0 0,.slice none 0 0] 44 (0,0)):=by rw [← hW0];exact heap_alloc_new w _
 have zero:jG s=none→Lj (jG s) w (.returned (.tuple #[.agg #[.string ⟨#[]⟩,.slice none 0 0,.slice none 0 0],.bool false])) (J3 W0 w.heap.size (.string ⟨#[]⟩) (.slice none 0 0) (.slice none 0 0)):=fun h=>
  ⟨nH hB0 (Nat.le_refl _) _ _ _,(.mk [] [],[]),_,false,rfl,aee (rd_mk (Nat.zero_le _) (.mO none)) (.mO none),.inr ⟨h,rfl⟩⟩
 replace zero:=hid zero
 obtain ⟨a0,a1,a2,a3,a4,a5⟩:=aX y0
 go_enter Tryz.func20,Tryz.ntmps20
 go_wp2_with fail
 go_loopw [4] (fun vi wr=>∃ i:Nat,vi = .int .i64 i∧i≤s.length∧Hid (∀ j,j<i→s[j]?≠some 58)∧wr=W0) (fun vi _=>s.length-(intOf vi).toNat)
 case atStart=>exact ⟨0,rfl,Nat.zero_le _,hid (fun j hj=>absurd hj (Nat.not_lt_zero _)),rfl⟩
 case round=>
  obtain ⟨i,rfl,hi,hsc,rfl⟩:=hrel;by_cases hlt:i<s.length
  ·have hix:=fun w=>dA (P:=Tryz.prog) Tryz.underlying9 hlt w
   obtain ⟨c,hc⟩:∃ c,s[i]=c:=⟨_,rfl⟩
   rw [hc] at hix;have hsi:s[i]?=some c:=(by rw [List.getElem?_eq_getElem hlt,hc]);by_cases h58:c=58
   ·subst h58;obtain ⟨q1,q2⟩:=sH 58 s i hi hsc.out (.inr hsi)
    replace hc:=hid hc
    by_cases h2:i+2≤s.length
    ·have h2':¬ ((s.length:Int)<(i:Int)+2):=(by omega);have hsl:∀ w,(Instr.slice 9 (.string ⟨s.toArray⟩) (some (.int .i64 i)) (some (.int .i64 ((i:Int)+2))) none).run Tryz.prog w = .ok (.string ⟨((s.drop i).take 2).toArray⟩) w:=fun w=>by
      have:=str_slice (P:=Tryz.prog) Tryz.underlying9 (s:=s) (i:=i) (j:=i+2) (by omega) h2 w;rw [show i+2-i=2 by omega] at this;exact this
     by_cases hq:(s.drop i).take 2=[58,32]
     ·have hOw:=hid (fun t ok=>Lh.start (t:=t) (ok:=ok) q1 q2 hq);have cT:=Tryz.Jt (s.take i) (by simp;omega) wr;have hx1:(⟨s.toArray⟩:ByteArray).extract 0 i=⟨(s.take i).toArray⟩:=(by rw [dF];simp);have hx2:(⟨s.toArray⟩:ByteArray).extract (i+2) s.length=⟨(s.drop (i+2)).toArray⟩:=by rw [dF,List.take_of_length_le (by simp)]
      replace hx2:=hid hx2
      rw [hq] at hsl
      replace hsi:=hid hsi
      replace hq:=hid hq
      replace q1:=hid q1
      replace q2:=hid q2
      go_wp2_with (go_at_call 58;refine cT.mono ?_;rintro e w1 ⟨hb1,⟨n0,l0⟩,val,ok,rfl,hd1,hT⟩;refine Hid.out ?_)
      obtain ⟨u,rfl,hu⟩:=rdt hd1;obtain ⟨ax,cx,rfl,_⟩:=rdl hu;clear hu;obtain ⟨W2,hW2⟩:∃ W,w1.alloc (.cells #[.string ⟨n0.toArray⟩,.slice ax l0.length cx] 42)=W:=⟨_,rfl⟩
      have hs2:W2.heap.size=w1.heap.size+1:=(by rw [← hW2];simp);have hB12:Below w1.heap.size w1 W2:=(by rw [← hW2];exact (Below.refl _ w1).alloc (Nat.le_refl _) _);have x2:W2.heap[w1.heap.size]?=some (.cells #[.string ⟨n0.toArray⟩,.slice ax l0.length cx] 42 (0,0)):=(by rw [← hW2];exact heap_alloc_new w1 _);obtain ⟨W3,hW3⟩:∃ W,W2.alloc (.cells #[.string ⟨n0.toArray⟩,.slice ax l0.length cx,.slice none 0 0] 44)=W:=⟨_,rfl⟩
      have hs3:W3.heap.size=w1.heap.size+2:=(by rw [← hW3];simp;omega);have hB23:Below W2.heap.size W2 W3:=(by rw [← hW3];exact (Below.refl _ W2).alloc (Nat.le_refl _) _);have x3:W3.heap[w1.heap.size+1]?=some (.cells #[.string ⟨n0.toArray⟩,.slice ax l0.length cx,.slice none 0 0] 44 (0,0)):=(by rw [← hW3,← hs2];exact heap_alloc_new W2 _);obtain ⟨x20,x21,x22,x23⟩:=aC x2;have hO:=hid (hOw.out _ _ hT);have hz1:=hb1.size;have hB13:=hb1.trans ((hB12.trans (hB23.mono (by omega))).mono hz1);have hd3:=hid (hd1.mono (ok':=fun b=>wr.heap.size≤b∧b<w1.heap.size) (fun b hb=>(hB23.block b (by omega)).trans (hB12.block b hb.2)) (fun b hb=>hb))
      replace hB13:=hid hB13
      replace x3:=hid x3
      replace hB23:=hid hB23
      subst hW3;refine hid ?_
      go_wp2_with fail
      generalize W2.alloc (.cells #[.string ⟨n0.toArray⟩,.slice ax l0.length cx,.slice none 0 0] 44)=W3 at *;clear cT hx1 hsl hix hOw x20 x21 x22 x23 x2 hW2 h2 h2';obtain ⟨ob,hob⟩:∃ ob,w1.heap.size+1=ob:=⟨_,rfl⟩
      obtain ⟨rest,hrest⟩:∃ r,s.drop (i+2)=r:=⟨_,rfl⟩
      rw [hx2.out];rw [hob] at x3 ⊢;rw [hrest] at hO ⊢
      replace hob:=hid hob
      clear hrest;have hobw:wr.heap.size≤w1.heap.size∧w1.heap.size+1=ob∧wr.heap.size=w.heap.size+1:=⟨hz1,hob.out,hs0⟩;have fin:∀ (V:World) (acc:List Tm) (va:Value) (ok:Bool),ob<V.heap.size→bV (ob+1) 42 2 V va (acc.map enT)→Below ob W3 V→((jG s=some (.mk n0 l0,acc)∧ok=true)∨(jG s=none∧ok=false)) →
        Lj (jG s) w (.returned (.tuple #[.agg #[.string ⟨n0.toArray⟩,.slice ax l0.length cx,va],.bool ok])) (J3 V w.heap.size (.string ⟨n0.toArray⟩) (.slice ax l0.length cx) va):=fun V acc va ok hz hR hB hr=>by
       have h1:=hd3.out;have h2:=hR.rd (by decide);refine ⟨nH ((hB0.trans (hB13.out.mono (by omega))).trans (hB.mono (by omega))) (Nat.le_refl _) _ _ _,(.mk n0 l0,acc),_,ok,rfl,aee (h1.mono (fun b hb=>?_) (fun b hb=>?_)) (h2.mono (fun b hb=>?_) (fun b hb=>?_)),hr⟩
       ·exact (nG _ _ _ _ _ (by have:=hb.1;omega)).trans (hB.block b (by have:=hb.2;omega))
       ·exact ⟨by have:=hb.1;omega,by rw [BU];have:=hb.2;omega⟩
       ·exact nG _ _ _ _ _ (by have:=hb.1;omega)
       ·exact ⟨by have:=hb.1;omega,by rw [BU];exact hb.2⟩
      have res:∀ (V:World),Below ob W3 V→V.heap[w.heap.size]?=some (.cells #[.string ⟨#[]⟩,.slice none 0 0,.slice none 0 0] 44 (0,0)):=fun V hB=>(hB.block _ (by omega)).trans ((hB13.out.block _ (by omega)).trans y0)
      replace fin:=hid fin
      replace res:=hid res
      go_loopw [8,6] (fun vr vo wr'=>∃ (rest:Str) (ok:Bool) (acc:List Tm) (va:Value),vr = .string ⟨rest.toArray⟩∧vo = .bool ok∧Hid (Lh s (.mk n0 l0) acc rest ok)∧wr'.heap[ob]?=some (.cells #[.string ⟨n0.toArray⟩,.slice ax l0.length cx,va] 44 (0,0))∧Hid (bV (ob+1) 42 2 wr' va (acc.map enT))∧ob<wr'.heap.size∧Hid (Below ob W3 wr')) (fun vr _ _=>match vr with | .string b=>b.size | _=>0)
      case atStart=>exact ⟨rest,ok,[],_,rfl,rfl,hO,x3.out,hid .nil,(Array.getElem?_eq_some_iff.1 x3.out).1,hid (Below.refl _ _)⟩
      case round=>
       clear hO x3;obtain ⟨rest,ok,acc,va,rfl,rfl,hO,hx,hRow,hz,hB⟩:=hrel;obtain ⟨y1,y2,y3,y4,y5,y6⟩:=aX hx;obtain ⟨ar,cpr,rfl⟩:=hRow.out.shape;rw [List.length_map] at y3 hRow hx;obtain ⟨z1,z2,z3,z4,z5,z6⟩:=aX (res.out _ hB.out);cases ok with
       | false=>
         have hno:=hid (hO.out.2.resolve_left (fun h=>by cases h.1)).2
         go_wp2_with fail
         all_goals
          refine bodyPost_ret (v := .tuple #[.agg #[.string ⟨n0.toArray⟩,.slice ax l0.length cx,.slice ar acc.length cpr],.bool false]) (by simp [results,Tryz.results20,go_sem,z1,z2,z3]) rfl ?_;exact fin.out wr acc _ false hz hRow.out hB.out (.inr ⟨hno.out,rfl⟩)
       | true=>
         by_cases hr:rest=[]
         ·subst hr;have hyes:=hid (((hO.out.2.resolve_right (fun h=>by cases h.1)).2.resolve_right (fun h=>h.1 rfl)).2)
          go_wp2_with fail
          refine bodyPost_ret (v := .tuple #[.agg #[.string ⟨n0.toArray⟩,.slice ax l0.length cx,.slice ar acc.length cpr],.bool true]) (by simp [results,Tryz.results20,go_sem,z1,z2,z3]) rfl ?_;exact fin.out wr acc _ true hz hRow.out hB.out (.inl ⟨hyes.out,rfl⟩)
         ·have hne:(rest==[])=false:=(by simpa using hr);have hrl:=hid (show rest.length≤16384 by have:=hO.out.1;omega);have hal:=hid (show acc.length≤16384 by have:=hO.out.1;omega);obtain ⟨m,hm⟩:∃ m,acc.length=m:=⟨_,rfl⟩
          rw [hm] at y3 hRow hx hal
          replace hm:=hid hm
          clear y1 y2 y4 y5 y6;obtain ⟨y1,y2,_,y4,y5,y6⟩:=aX hx
          replace hr:=hid hr
          go_wp2_with fail
          go_loopw [9] (fun ve wv=>∃ e:Nat,ve = .int .i64 e∧e≤rest.length∧Hid (∀ k,k<e→(rest.drop k).take 2≠[44,32])∧wv=wr) (fun ve _=>rest.length-(intOf ve).toNat)
          case atStart=>exact ⟨0,rfl,Nat.zero_le _,hid (fun j hj=>absurd hj (Nat.not_lt_zero _)),rfl⟩
          case round=>
           obtain ⟨e,rfl,he,hsc2,rfl⟩:=hrel;have hrl':=hrl.out;by_cases hlt2:e<rest.length
           case' pos=>
            have hix:=fun w=>dA (P:=Tryz.prog) Tryz.underlying9 hlt2 w
            obtain ⟨c,hc⟩:∃ c,rest[e]=c:=⟨_,rfl⟩
            rw [hc] at hix;have hre:rest[e]?=some c:=(by rw [List.getElem?_eq_getElem hlt2,hc]);have next:(rest.drop e).take 2≠[44,32]→∃ e':Nat,Value.int IntKind.i64 ((e:Int)+1) = .int .i64 e'∧e'≤rest.length∧Hid (∀ k,k<e'→(rest.drop k).take 2≠[44,32]):=fun h=>by
             refine ⟨e+1,by go_num,hlt2,hid (fun k hk=>?_)⟩;rcases Nat.lt_or_ge k e with h1 | h1
             ·exact hsc2.out k h1
             ·obtain rfl:k=e:=by omega
              exact h
            replace next:=hid next
            have hdec:∀ x:Int,x=(e:Int)+1→rest.length-(intOf (.int .i64 x)).toNat<rest.length-(intOf (.int .i64 (e:Int))).toNat:=fun x hx=>by simp [intOf,hx];omega
            replace hdec:=hid hdec
            by_cases h44:c=44
            case neg=>
             have hb:¬ (c.toNat:Int)=44:=fun h=>h44 (UInt8.toNat_inj.1 (by simpa using Int.ofNat_inj.1 h))
             have hb2:((c.toNat:Int) != 44)=true:=(by simpa using hb);have hn:=hid (next.out (fun h=>h44 (Option.some.inj (hre.symm.trans (pW.1 h).1))))
             replace hre:=hid hre
             replace hc:=hid hc
             go_wp2_with fail
             go_roundw
             case rel=>obtain ⟨e',h1,h2,h3⟩:=hn.out;exact ⟨e',h1,h2,h3,trivial⟩
             case measure=>exact hdec.out _ rfl
            subst h44;by_cases h1:e+1<rest.length
            case neg=>
             have h1':decide ((rest.length:Int)≤(e:Int)+1)=true:=decide_eq_true (by omega);have hn:=hid (next.out (fun h=>by have:=(List.getElem?_eq_some_iff.1 (pW.1 h).2).1;omega))
             replace hre:=hid hre
             replace hc:=hid hc
             go_wp2_with fail
             go_roundw
             case rel=>obtain ⟨e',h1,h2,h3⟩:=hn.out;exact ⟨e',h1,h2,h3,trivial⟩
             case measure=>exact hdec.out _ rfl
            have h1':decide ((rest.length:Int)≤(e:Int)+1)=false:=decide_eq_false (by omega);have hix2:∀ w,(Instr.index 9 (.string ⟨rest.toArray⟩) (.int .i64 ((e:Int)+1))).run Tryz.prog w = .ok (.int .u8 rest[e+1].toNat) w:=fun w=>dA (P:=Tryz.prog) Tryz.underlying9 h1 w
            obtain ⟨d,hd⟩:∃ d,rest[e+1]=d:=⟨_,rfl⟩
            rw [hd] at hix2;have hrd:rest[e+1]?=some d:=(by rw [List.getElem?_eq_getElem h1,hd]);by_cases h32:d=32
            case neg=>
             have hb:¬ (d.toNat:Int)=32:=fun h=>h32 (UInt8.toNat_inj.1 (by simpa using Int.ofNat_inj.1 h))
             have hb2:((d.toNat:Int) != 32)=true:=(by simpa using hb);have hn:=hid (next.out (fun h=>h32 (Option.some.inj (hrd.symm.trans (pW.1 h).2))))
             replace hre:=hid hre
             replace hc:=hid hc
             replace hrd:=hid hrd
             replace hd:=hid hd
             go_wp2_with fail
             go_roundw
             case rel=>obtain ⟨e',h1,h2,h3⟩:=hn.out;exact ⟨e',h1,h2,h3,trivial⟩
             case measure=>exact hdec.out _ rfl
            subst h32;have hend:=hid (show e=rest.length∨e+2≤rest.length∧(rest.drop e).take 2=[44,32] from .inr ⟨h1,pW.2 ⟨hre,hrd⟩⟩)
            replace hre:=hid hre
            replace hc:=hid hc
            replace hrd:=hid hrd
            replace hd:=hid hd
            clear hdec next
            have hx5:(⟨rest.toArray⟩:ByteArray).extract 0 e=⟨(rest.take e).toArray⟩:=(by rw [dF];simp);have cT5:=hid (Tryz.Jt (rest.take e) (by simp;omega) (wr.alloc (.cells #[.string ⟨#[]⟩,.slice none 0 0] 42)))
            go_wp2_with (go_at_call 58;refine cT5.out.mono ?_;rintro e5 w5 ⟨hb5,⟨n1,l1⟩,val,ok1,rfl,hd5,hT5⟩;refine Hid.out ?_)
           case' neg=>
            have hend:=hid (show e=rest.length∨e+2≤rest.length∧(rest.drop e).take 2=[44,32] from .inl (by omega));have hx5:(⟨rest.toArray⟩:ByteArray).extract 0 e=⟨(rest.take e).toArray⟩:=(by rw [dF];simp);have cT5:=hid (Tryz.Jt (rest.take e) (by simp;omega) (wr.alloc (.cells #[.string ⟨#[]⟩,.slice none 0 0] 42)))
            go_wp2_with (go_at_call 58;refine cT5.out.mono ?_;rintro e5 w5 ⟨hb5,⟨n1,l1⟩,val,ok1,rfl,hd5,hT5⟩;refine Hid.out ?_)
           all_goals
            obtain ⟨u,rfl,hu⟩:=rdt hd5;obtain ⟨al,cl,rfl,_⟩:=rdl hu;clear hu;have hz5:=hb5.size;simp only [World.size_alloc] at hz5;have x5:=(hb5.block wr.heap.size (by simp)).trans (heap_alloc_new wr _);have o5:=(hb5.block ob (by simp;omega)).trans ((heap_alloc_old wr _ hz).trans hx);have k5:∀ k,k<wr.heap.size→w5.heap[k]?=wr.heap[k]?:=fun k hk=>(hb5.block k (by simp;omega)).trans (heap_alloc_old wr _ hk)
            obtain ⟨p0,p1,p2,p3⟩:=aC x5;have m1:ob≠wr.heap.size:=(by omega);have m2:wr.heap.size≠ob:=(by omega);obtain ⟨W6,hW6⟩:∃ W,(w5.setCell ⟨wr.heap.size,0,none⟩ (.string ⟨n1.toArray⟩)).setCell ⟨wr.heap.size,1,none⟩ (.slice al l1.length cl)=W:=⟨_,rfl⟩
            have x6:W6.heap[wr.heap.size]?=some (.cells #[.string ⟨n1.toArray⟩,.slice al l1.length cl] 42 (0,0)):=(by rw [← hW6];exact bC 1 _ (bC 0 _ x5));have k6:∀ k,k≠wr.heap.size→W6.heap[k]?=w5.heap[k]?:=fun k hk=>by rw [← hW6];exact (aA _ _ _ hk).trans (aA _ _ _ hk)
            have hs6:W6.heap.size=w5.heap.size:=(by rw [← hW6];simp [World.setCell]);have hq6:W6.os=w5.os∧W6.tape=w5.tape∧W6.output=w5.output:=(by rw [← hW6];exact ⟨rfl,rfl,rfl⟩);have o6:=(k6 ob m1).trans o5;have kk6:∀ k,k<wr.heap.size→W6.heap[k]?=wr.heap[k]?:=fun k hk=>(k6 k (by omega)).trans (k5 k hk)
            have hBw:Below wr.heap.size wr W6:=⟨hq6.1.trans hb5.os,hq6.2.1.trans hb5.tape,hq6.2.2.trans hb5.output,by omega,kk6⟩;have hdt:=hid (hd5.mono (ok':=fun b=>wr.heap.size<b∧b<W6.heap.size) (fun b hb=>k6 b (by have:=hb.1;simp at this;omega)) (fun b hb=>⟨by have:=hb.1;simp at this;omega,by have:=hb.2;omega⟩));obtain ⟨q0,q1,q2',q3⟩:=aC x6;obtain ⟨y1',y2',y3',y4',y5',y6'⟩:=aX o6;have hOt:=hid (hO.out.term hr.out he hsc2.out hT5)
            replace x6:=hid x6
            replace o6:=hid o6
            replace hBw:=hid hBw
            clear hb5 hd5 x5 o5 k5 k6 kk6 hq6 y1 y2 y3 y4 y5 y6 z1 z2 z3 z4 z5 z6;refine hid ?_;have hrd:=hRow.out.rd (by decide);have hob6:ob<W6.heap.size:=(by omega);have hwr6:wr.heap.size<W6.heap.size:=(by omega);by_cases ha:acc=[]
            case' pos=>
             have hd0:decide (0<(m:Int))=false:=(by rw [← hm.out,ha];rfl);have hd1:decide (0<m)=false:=(by rw [← hm.out,ha];rfl);have hnb:=hid (show xJ acc.getLast? (.mk n1 l1)=false by rw [ha];rfl);have hVb:Hid (Below W6.heap.size W6 W6.drew):=hid (Below.refl _ _).drew
             replace ha:=hid ha
             clear hrd
             go_wp2_with fail
             go_region
             generalize W6.drew=V at hVb ⊢
            case' neg=>
             obtain ⟨k,rfl⟩:∃ k,m=k+1:=⟨m-1,by have:acc.length≠0:=fun h=>ha (List.length_eq_zero_iff.1 h);have:=hm.out;omega⟩
             have hk:=hm.out;have hlast:acc.getLast?=some acc[k]:=(by rw [List.getLast?_eq_getElem?,show acc.length-1=k by omega];exact List.getElem?_eq_getElem (by omega));have hnb:=hid (show xJ acc.getLast? (.mk n1 l1)=decide (0≤jD acc[k] (.mk n1 l1)) by rw [hlast];rfl);obtain ⟨ar',cp',he,hcs⟩:=rdl hrd;obtain ⟨bb,oo,rfl,hbb,hlc,hcm,hcs⟩:=hcs.resolve_left ha;obtain ⟨p0,p1,c0,c1,hr⟩:=hcs k (by omega);rw [hk] at he;cases he;have hbb1:bb<wr.heap.size:=hbb.2;have g0:=(hBw.out.cell (p:=⟨bb,oo+k*2,none⟩) hbb1).trans c0;have g1:=(hBw.out.cell (p:=⟨bb,oo+(k*2+1),none⟩) hbb1).trans c1;rw [← Nat.add_assoc] at g1;have hcm2:cpr≤9223372036854775807:=hcm;obtain ⟨⟨ps,rfl⟩,pa,pn,pc,rfl⟩:=JH hr;have hr5:RdD (fun b=>b<W6.heap.size) W6 (.agg #[.string ps,.slice pa pn pc]) (enT acc[k]):=hr.mono (fun b hb=>hBw.out.block b hb.2) (fun b hb=>Nat.lt_of_lt_of_le hb.2 hBw.out.size);have hr6:RdD (fun b=>b<W6.drew.heap.size) W6.drew (.agg #[.string ps,.slice pa pn pc]) (enT acc[k]):=aO (Below.refl _ W6).drew hr5;have ht5:RdD (fun b=>b<W6.heap.size) W6 (.agg #[.string ⟨n1.toArray⟩,.slice al l1.length cl]) (enT (.mk n1 l1)):=hdt.out.mono (fun _ _=>rfl) (fun b hb=>hb.2);have ht6:=aO (Below.refl _ W6).drew ht5;have cC:=hid (Tryz.aiL acc[k] (.mk n1 l1) W6.drew _ _ hr6 ht6);generalize jD acc[k] (.mk n1 l1)=cmp at cC hnb;have hkk:(((k+1:Nat):Int)-1)=(k:Nat):=(by omega);have hal2:k+1≤16384:=hal.out;have hwk:IntKind.i64.wrap (k:Int)=(k:Int):=(by rw [IntKind.wrap_i64];omega);have hbb6:bb<W6.heap.size:=Nat.lt_of_lt_of_le hbb1 hBw.out.size
             replace ha:=hid ha
             replace hk:=hid hk
             replace hlast:=hid hlast
             clear hcs c0 c1 hrd hr hr5 hr6 ht5 ht6
             have i4:decide ((0:Int)<(k:Int)+1)=true:=(decide_eq_true (by omega));have i5:(0:Int)<(k:Int)+1:=(by omega);have i6:(k:Int)<(k:Int)+1:=(by omega);have i7:(k:Int)≤(k:Int)+1:=(by omega)
             go_wp2_with fail
             go_region_held3 (fun w'=>w'.cell? ⟨bb,oo+k*2,none⟩=some (.string ps)∧w'.cell? ⟨bb,oo+k*2+1,none⟩=some (.slice pa pn pc)∧w'.cell? ⟨ob,2,none⟩=some (.slice (some ⟨bb,oo,none⟩) (k+1) cpr)∧w'.cell? ⟨wr.heap.size,0,none⟩=some (.string ⟨n1.toArray⟩)∧w'.cell? ⟨wr.heap.size,1,none⟩=some (.slice al l1.length cl)) (go_keep) (first | (go_at_call 59;refine cC.out.mono ?_;rintro e6 V ⟨rfl,hb6⟩;have hVb:Hid (Below W6.heap.size W6 V):=hid ((Below.refl _ W6).drew.trans hb6);have s0:=(hb6.cell (p:=⟨bb,oo+k*2,none⟩) hbb6).trans g0;have s1:=(hb6.cell (p:=⟨bb,oo+k*2+1,none⟩) hbb6).trans g1;have s2:=(hb6.cell (p:=⟨ob,2,none⟩) hob6).trans y3';have s3:=(hb6.cell (p:=⟨wr.heap.size,0,none⟩) hwr6).trans q0;have s4:=(hb6.cell (p:=⟨wr.heap.size,1,none⟩) hwr6).trans q1;replace hb6:=hid hb6))
             clear hkk hwk hk hlast hal2;generalize decide (0≤cmp)=nb at hnb ⊢;cases nb
            all_goals
             have hzV:=hVb.out.size;have oV:=hid ((hVb.out.block ob hob6).trans o6.out);have xV:=(hVb.out.block wr.heap.size hwr6).trans x6.out;obtain ⟨v0,v1,v2,v3⟩:=aC xV;obtain ⟨z0,z1,z2,z3,z4,z5⟩:=aX oV.out;have hdV:RdD (fun b=>wr.heap.size≤b∧b<V.heap.size) V (.agg #[.string ⟨n1.toArray⟩,.slice al l1.length cl]) (enT (.mk n1 l1)):=hdt.out.mono (fun b hb=>hVb.out.block b hb.2) (fun b hb=>⟨Nat.le_of_lt hb.1,Nat.lt_of_lt_of_le hb.2 hzV⟩);have hBV:=hid (hBw.out.trans (hVb.out.mono hBw.out.size));obtain ⟨r1,r2,r3⟩:=bV.ready (w6:=V) hRow.out (by omega:ob+1≤wr.heap.size) hBV.out.size (fun b h1 h2=>hBV.out.block b h2) _ _ (yt hdV);have hBo:=hid (fun (U:World) (h:Below (ob+1) V U)=>(hB.out.trans (hBV.out.mono (by omega))).trans (h.mono (Nat.le_succ ob)));have hal2:=hal.out;have hml:=hm.out
             replace hml:=hid hml
             have m3:w.heap.size≠ob:=(by omega);have m4:ob≠w.heap.size:=by omega
             replace r1:=hid r1
             replace r2:=hid r2
             replace r3:=hid r3
             clear hdV xV;obtain ⟨okv,hokv⟩:∃ okv,Hid ((ok1&&!xJ acc.getLast? (.mk n1 l1))=okv):=⟨_,hid rfl⟩
             rcases hend.out with hE | ⟨hE,hS⟩
             ·first
              | (exfalso;omega)
              | (have hfin:=hid (hOt.out.1 hE)
                 have hEb:((e:Int)==(rest.length:Int))=true:=by rw [hE];simp
                 replace hE:=hid hE
                 go_wp2_with (at_builtin;refine dP rfl _ _ _ rfl Tryz.termInfo rfl r1.out _ _ rfl (enT (.mk n1 l1)) _ rfl r2.out (jR _) r3.out ?_ ?_ ?_;rotate_left 2;intro g7 c7 w7 hr7 hg7;have y7:=(r1.out.far hg7 (Nat.lt_succ_self ob) (by simp;omega)).trans ((heap_alloc_old V _ (by omega)).trans oV.out);obtain ⟨b0,b1,b2,b3,b4,b5⟩:=aX y7;have hB7:=hid (hBo.out _ (r1.out.below hg7 (by omega)));obtain ⟨e0,e1,e2,e3,e4,e5⟩:=aX (res.out w7 hB7.out);simp only [List.length_map,hm.out] at hr7;replace y7:=hid y7;replace hr7:=hid hr7;replace hg7:=hid hg7;rotate_left;rw [List.length_map,hm.out];omega;simp;omega)
                 have hR8:bV (ob+1) 42 2 (w7.setCell ⟨ob,2,none⟩ (.slice (some ⟨g7,0,none⟩) (acc.length+1) c7)) (.slice (some ⟨g7,0,none⟩) (acc.length+1) c7) ((acc++[Tm.mk n1 l1]).map enT):=by
                  rw [hm.out,List.map_append];exact hr7.out.keep (by simp [World.setCell]) (fun b hb _=>aA w7 ⟨ob,2,none⟩ _ (by simp;omega))
                 have hB8:=hB7.out.setCell (p:=⟨ob,2,none⟩) (Nat.le_refl _) (.slice (some ⟨g7,0,none⟩) (acc.length+1) c7);have hz8:ob<(w7.setCell ⟨ob,2,none⟩ (.slice (some ⟨g7,0,none⟩) (acc.length+1) c7)).heap.size:=(by simp [World.setCell];exact (Array.getElem?_eq_some_iff.1 y7.out).1);refine bodyPost_ret (v := .tuple #[.agg #[.string ⟨n0.toArray⟩,.slice ax l0.length cx,(.slice (some ⟨g7,0,none⟩) (acc.length+1) c7)],.bool okv]) (by simp [results,Tryz.results20,go_sem,e0,e1,e2,hm.out,m3,m4,← hokv.out,hnb.out]) rfl ?_;have hfe:=fin.out _ (acc++[Tm.mk n1 l1]) _ okv hz8 hR8 hB8 (hfin.out.elim (fun h => .inl ⟨h.2,hokv.out.symm.trans h.1⟩) (fun h => .inr ⟨h.2,hokv.out.symm.trans h.1⟩));rw [hm.out] at hfe ⊢
                 exact hfe)
             ·first
              | (exfalso;omega)
              | (have hEb:((e:Int)==(rest.length:Int))=false:=by simpa using (fun h:(e:Int)=rest.length=>by omega)
                 have hx7:(⟨rest.toArray⟩:ByteArray).extract (e+2) rest.length=⟨(rest.drop (e+2)).toArray⟩:=(by rw [dF,List.take_of_length_le (by simp)]);have hOw:=hOt.out.2 hS;have hrl2:(rest.drop (e+2)).length<rest.length:=(by simp;omega);rw [hokv.out] at hOw;generalize rest.drop (e+2)=rest2 at hx7 hOw hrl2;obtain ⟨z,hzd⟩:∃ z,decide (rest2=[])=z:=⟨_,rfl⟩
                 have hne2:(rest2==[])=z:=(by rw [← hzd,Bool.eq_iff_iff];simp);have hOw:=hid hOw
                 replace hzd:=hid hzd
                 replace hrl2:=hid hrl2
                 cases z
                 all_goals
                  go_wp2_with (at_builtin;refine dP rfl _ _ _ rfl Tryz.termInfo rfl r1.out _ _ rfl (enT (.mk n1 l1)) _ rfl r2.out (jR _) r3.out ?_ ?_ ?_;rotate_left 2;intro g7 c7 w7 hr7 hg7;have y7:=(r1.out.far hg7 (Nat.lt_succ_self ob) (by simp;omega)).trans ((heap_alloc_old V _ (by omega)).trans oV.out);obtain ⟨b0,b1,b2,b3,b4,b5⟩:=aX y7;have hB7:=hid (hBo.out _ (r1.out.below hg7 (by omega)));obtain ⟨e0,e1,e2,e3,e4,e5⟩:=aX (res.out w7 hB7.out);simp only [List.length_map,hm.out] at hr7;replace y7:=hid y7;replace hr7:=hid hr7;replace hg7:=hid hg7;rotate_left;rw [List.length_map,hm.out];omega;simp;omega)
                  have hR8:bV (ob+1) 42 2 (w7.setCell ⟨ob,2,none⟩ (.slice (some ⟨g7,0,none⟩) (acc.length+1) c7)) (.slice (some ⟨g7,0,none⟩) (acc.length+1) c7) ((acc++[Tm.mk n1 l1]).map enT):=by
                   rw [hm.out,List.map_append];exact hr7.out.keep (by simp [World.setCell]) (fun b hb _=>aA w7 ⟨ob,2,none⟩ _ (by simp;omega))
                  have hB8:=hB7.out.setCell (p:=⟨ob,2,none⟩) (Nat.le_refl _) (.slice (some ⟨g7,0,none⟩) (acc.length+1) c7);have hz8:ob<(w7.setCell ⟨ob,2,none⟩ (.slice (some ⟨g7,0,none⟩) (acc.length+1) c7)).heap.size:=(by simp [World.setCell];exact (Array.getElem?_eq_some_iff.1 y7.out).1);have hy8:=bC 2 (.slice (some ⟨g7,0,none⟩) (acc.length+1) c7) y7.out;simp only [List.setIfInBounds_toArray,List.set_cons_succ,List.set_cons_zero] at hy8
                  first
                  | refine ⟨⟨rest2,okv&&!decide (rest2=[]),acc++[Tm.mk n1 l1],_,congrArg Value.string hx7,congrArg Value.bool ?_,hOw,hy8,hid hR8,hz8,hid hB8⟩,?_⟩
                  | (rw [hm.out] at hR8 hB8 hz8 hy8;refine ⟨⟨rest2,okv&&!decide (rest2=[]),acc++[Tm.mk n1 l1],_,congrArg Value.string hx7,congrArg Value.bool ?_,hOw,hy8,hid hR8,hz8,hid hB8⟩,?_⟩)
                  ·rw [← hokv.out,hnb.out,hzd.out];simp
                  ·show ((⟨rest.toArray⟩:ByteArray).extract (e+2) rest.length).size<(⟨rest.toArray⟩:ByteArray).size
                   rw [hx7];simp only [ByteArray.size,List.size_toArray];exact hrl2.out)
     ·have hno:=hid (Eu q2 hq);have hq':((s.drop i).take 2==[58,32])=false:=by simpa using hq
      replace hsi:=hid hsi
      replace hq:=hid hq
      generalize (s.drop i).take 2=s2 at hsl hq'
      replace q1:=hid q1
      replace q2:=hid q2
      go_wp2_with fail
      refine bodyPost_ret (v := .tuple #[.agg #[.string ⟨#[]⟩,.slice none 0 0,.slice none 0 0],.bool false]) (by simp [results,Tryz.results20,go_sem,a0,a1,a2]) rfl ?_;exact zero.out hno.out
    ·have h2':(s.length:Int)<(i:Int)+2:=(by omega);have hno:=hid (Eu q2 (fun h=>by have:=congrArg List.length h;simp at this;omega))
     replace hsi:=hid hsi
     replace q1:=hid q1
     replace q2:=hid q2
     go_wp2_with fail
     refine bodyPost_ret (v := .tuple #[.agg #[.string ⟨#[]⟩,.slice none 0 0,.slice none 0 0],.bool false]) (by simp [results,Tryz.results20,go_sem,a0,a1,a2]) rfl ?_;exact zero.out hno.out
   ·have hb:((c.toNat:Int)==58)=false:=by
     rw [beq_eq_false_iff_ne];intro h;exact h58 (UInt8.toNat_inj.1 (by simpa using Int.ofNat_inj.1 h))
    replace hsi:=hid hsi
    replace hc:=hid hc
    go_wp2_with fail
    go_roundw
    case rel=>
     refine ⟨i+1,by go_num,hlt,hid (fun j hj=>?_),trivial⟩;rcases Nat.lt_or_ge j i with h | h
     ·exact hsc.out j h
     ·obtain rfl:j=i:=by omega
      rw [hsi.out];exact fun e=>h58 (Option.some.inj e)
    case measure=>simp [intOf];omega
  ·obtain rfl:i=s.length:=by omega
   obtain ⟨q1,q2⟩:=sH 58 s s.length hi hsc.out (.inl rfl);have h2':(s.length:Int)<(s.length:Int)+2:=(by omega);have hno:=hid (Eu q2 (fun h=>by have:=congrArg List.length h;simp at this))
   replace q1:=hid q1
   replace q2:=hid q2
   go_wp2_with fail
   refine bodyPost_ret (v := .tuple #[.agg #[.string ⟨#[]⟩,.slice none 0 0,.slice none 0 0],.bool false]) (by simp [results,Tryz.results20,go_sem,a0,a1,a2]) rfl ?_;exact zero.out hno.out
end Go.Proofs
