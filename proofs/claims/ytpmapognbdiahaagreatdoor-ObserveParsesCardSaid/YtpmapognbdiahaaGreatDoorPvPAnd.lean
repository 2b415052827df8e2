/- The reference's Parse; the law; the contract. -/
import Derived.Test.YtpmapognbdiahaaGreatDoorPvPOne
import Derived.Test.YtpmapognbdiahaaGreatDoorLnBAnd
import Derived.Test.YtpmapognbdiahaaGreatDoorSmAAnd
import Derived.Test.YtpmapognbdiahaaGreatDoorPvEOne
import Derived.Test.YtpmapognbdiahaaGreatDoorORunBOne
import Derived.SizedLaws
import Derived.ChangeMaps5
set_option linter.all false
namespace Go.Proofs
open Go Go.RowKit Go.Shelf Go.Abs Go.Own Go.Proofs.YtpmapognbdiahaaGreatDoor
theorem RY (f:Nat):jV (f+1) []=some []:=by rw [jV,if_pos rfl]
theorem RZ {f:Nat} {r:Str} (h:r≠[]) (hd:r.dropWhile (· != 10)=[]):jV (f+1) r=none:=by rw [jV,if_neg h,hd]
theorem LP {f:Nat} {r:Str} {k:Nat} (h:r≠[]) (ht:r.takeWhile (· != 10)=r.take k) (hd:r.dropWhile (· != 10)=r.drop k) (hk:k<r.length):jV (f+1) r=match jG (r.take k) with | none=>none | some x=>(jV f (r.drop (k+1))).map (x::·):=by
 rw [jV,if_neg h,hd,List.drop_eq_getElem_cons hk,ht];cases jG (r.take k)<;>rfl
def xM (s:Str) (acc:List Sn) (r:Str):Prop:=acc.length+r.length≤s.length∧∃ f,r.length<f∧jV (s.length+1) s=(jV f r).map (acc++·)
theorem xM.start (s:Str):xM s [] s:=⟨by simp,s.length+1,Nat.lt_succ_self _,by cases jV (s.length+1) s<;>rfl⟩
theorem xM.fin {s:Str} {acc:List Sn} (h:xM s acc []):jV (s.length+1) s=some acc:=by
 obtain ⟨_,f,hf,h⟩:=h;cases f with
 | zero=>cases hf
 | succ f=>rw [h,RY];simp
theorem xM.bad {s:Str} {acc:List Sn} {r:Str} (h:xM s acc r) (hr:r≠[]) (hd:r.dropWhile (· != 10)=[]):jV (s.length+1) s=none:=by
 obtain ⟨_,f,hf,h⟩:=h;cases f with
 | zero=>cases hf
 | succ f=>rw [h,RZ hr hd];rfl
theorem xM.no {s:Str} {acc:List Sn} {r:Str} {k:Nat} (h:xM s acc r) (hr:r≠[]) (ht:r.takeWhile (· != 10)=r.take k) (hd:r.dropWhile (· != 10)=r.drop k) (hk:k<r.length) (hn:jG (r.take k)=none):jV (s.length+1) s=none:=by
 obtain ⟨_,f,hf,h⟩:=h;cases f with
 | zero=>cases hf
 | succ f=>rw [h,LP hr ht hd hk,hn];rfl
theorem xM.step {s:Str} {acc:List Sn} {r:Str} {k:Nat} {x:Sn} (h:xM s acc r) (hr:r≠[]) (ht:r.takeWhile (· != 10)=r.take k) (hd:r.dropWhile (· != 10)=r.drop k) (hk:k<r.length) (hn:jG (r.take k)=some x):xM s (acc++[x]) (r.drop (k+1)):=by
 obtain ⟨hl,f,hf,h⟩:=h;cases f with
 | zero=>cases hf
 | succ f=>
   refine ⟨by simp;omega,f,by simp;omega,?_⟩;rw [h,LP hr ht hd hk,hn];simp only;cases jV f (r.drop (k+1))<;>simp
set_option maxHeartbeats 4000000 in
set_option maxRecDepth 100000 in
theorem Tryz.Xu (s:Str) (hs:s.length≤16384) (w:World) :
  Calls Tryz.prog 6 #[.string ⟨s.toArray⟩] w (Jh (jV (s.length+1) s) w):=by
 have hnl:¬ (16384:Int)<(s.length:Int):=by omega
 have hsz:(⟨s.toArray⟩:ByteArray).size=s.length:=by simp [ByteArray.size]
 go_enter Tryz.func6,Tryz.ntmps6
 go_wp2_with fail
 go_loopw [0,4] (fun vs vo wr=>∃ (r:Str) (acc:List Sn),vs = .string ⟨r.toArray⟩∧Hid (xM s acc r)∧Hid (bV w.heap.size 44 3 wr vo (acc.map enS))∧Hid (Below w.heap.size w wr)) (fun vs _ _=>match vs with | .string b=>b.size | _=>0)
 case atStart=>exact ⟨s,[],rfl,hid (.start s),hid .nil,hid (Below.refl _ _)⟩
 case round=>
  obtain ⟨r,acc,rfl,hA,hRow,hB⟩:=hrel;clear hsz hnl;have hrz:(⟨r.toArray⟩:ByteArray).size=r.length:=by simp [ByteArray.size]
  have hrl:=hA.out.1;obtain ⟨av,cv,rfl⟩:=hRow.out.shape;rw [List.length_map] at hRow ⊢;by_cases hr:r=[]
  ·subst hr;have hf:=hid hA.out.fin
   go_wp2_with fail
   go_ret2
   exact ⟨hB.out,.inl ⟨acc,_,hf.out,rfl,w.heap.size,Nat.le_refl _,hRow.out⟩⟩
  have hr0:0<r.length:=List.length_pos_iff.2 hr
  replace hr:=hid hr
  go_wp2_with fail
  go_loopw [5] (fun ve wv=>∃ e:Nat,ve = .int .i64 e∧e≤r.length∧Hid (∀ k,k<e→r[k]?≠some 10)∧wv=wr) (fun ve _=>r.length-(intOf ve).toNat)
  case atStart=>exact ⟨0,rfl,Nat.zero_le _,hid (fun j hj=>absurd hj (Nat.not_lt_zero _)),rfl⟩
  case round=>
   obtain ⟨e,rfl,he,hsc,rfl⟩:=hrel;by_cases hlt:e<r.length
   ·have hix:=fun w=>dA (P:=Tryz.prog) Tryz.underlying9 hlt w
    have hre:r[e]?=some r[e]:=List.getElem?_eq_getElem hlt;by_cases h10:r[e]=10
    ·rw [h10] at hix hre;obtain ⟨q1,q2⟩:=sH 10 r e he hsc.out (.inr hre)
     replace hre:=hid hre
     replace h10:=hid h10
     have cL:=hid (Tryz.aeL (r.take e) (by simp;omega) wr);have hx1:(⟨r.toArray⟩:ByteArray).extract 0 e=⟨(r.take e).toArray⟩:=(by rw [dF];simp);have hx2:(⟨r.toArray⟩:ByteArray).extract (e+1) r.length=⟨(r.drop (e+1)).toArray⟩:=(by rw [dF,List.take_of_length_le (by simp)]);have hno:=hid (fun h=>hA.out.no hr.out q1 q2 hlt h);have hst:=hid (fun x h=>hA.out.step (x:=x) hr.out q1 q2 hlt h)
     replace q1:=hid q1
     replace q2:=hid q2
     have hd:(r.drop (e+1)).length<r.length:=by simp;omega
     go_wp2_with (go_at_call 20;refine cL.out.mono ?_;rintro ee w1 ⟨hb1,x,val,b,rfl,hd1,(⟨hres,rfl⟩ | ⟨hres,rfl⟩)⟩<;>refine Hid.out ?_)
     all_goals
      obtain ⟨a1,c1,a2,c2,rfl⟩:=ag4 hd1;obtain ⟨V,hV⟩:∃ V,w1.alloc (.cells #[.string ⟨x.1.name.toArray⟩,.slice a1 x.1.args.length c1,.slice a2 x.2.length c2] 44)=V:=⟨_,rfl⟩
      have hsV:V.heap.size=w1.heap.size+1:=(by rw [← hV];simp);have hz1:=hb1.size;have hB1V:Below w1.heap.size w1 V:=(by rw [← hV];exact (Below.refl _ w1).alloc (Nat.le_refl _) _);have hrV:=hid (hb1.trans (hB1V.mono hz1))
     ·have xV:V.heap[w1.heap.size]?=some (.cells #[.string ⟨x.1.name.toArray⟩,.slice a1 x.1.args.length c1,.slice a2 x.2.length c2] 44 (0,0)):=(by rw [← hV];exact heap_alloc_new w1 _);obtain ⟨z0,z1,z2,_⟩:=aX xV;have hdV:RdD (fun b=>wr.heap.size≤b∧b<V.heap.size) V (.agg #[.string ⟨x.1.name.toArray⟩,.slice a1 x.1.args.length c1,.slice a2 x.2.length c2]) (enS x):=hd1.mono (fun b hb=>hB1V.block b hb.2) (fun b hb=>⟨hb.1,by have:=hb.2;omega⟩);obtain ⟨r1,r2,r3⟩:=bV.ready (w6:=V) hRow.out hB.out.size hrV.out.size (fun b h1 h2=>hrV.out.block b h2) _ _ hdV;have hst2:=hid (hst.out x hres);have hBz:=hB.out.size;have hal:acc.length≤16384:=by omega
      replace r1:=hid r1
      rw [hsV] at r2
      replace r2:=hid r2
      replace r3:=hid r3
      clear hdV xV hb1 hd1 hB1V hres hno hst cL;refine hid ?_
      go_wp2_with (at_builtin;refine dP rfl _ _ _ rfl Tryz.GX rfl r1.out _ _ rfl (enS x) _ rfl r2.out rfl r3.out ?_ ?_ ?_;rotate_left 2;intro g7 c7 w7 hr7 hg7;have hB7:=hid (r1.out.below hg7 (by omega));simp only [List.length_map] at hr7;replace hr7:=hid hr7;replace hg7:=hid hg7;rotate_left;rw [List.length_map];omega;simp;omega)
      exact ⟨⟨r.drop (e+1),acc++[x],rfl,hst2,by rw [List.map_append];exact hr7,hid (hB.out.trans ((hrV.out.mono hBz).trans hB7.out))⟩,by show (⟨(r.drop (e+1)).toArray⟩:ByteArray).size<(⟨r.toArray⟩:ByteArray).size;simp only [ByteArray.size,List.size_toArray];exact hd⟩
     ·have hno2:=hid (hno.out hres);clear hd1 hb1 hB1V hres;refine hid ?_
      go_wp2_with fail
      go_ret2
      exact ⟨hB.out.trans (hrV.out.mono hB.out.size),.inr ⟨hno2.out,rfl⟩⟩
    ·have hb:¬ (r[e].toNat:Int)=10:=fun h=>h10 (UInt8.toNat_inj.1 (by simpa using Int.ofNat_inj.1 h))
     have hb2:((r[e].toNat:Int) != 10)=true:=(by simpa using hb);generalize (r[e].toNat:Int)=c at *
     replace hre:=hid hre
     go_wp2_with fail
     go_roundw
     case rel=>
      refine ⟨e+1,by go_num,hlt,hid (fun k hk=>?_),trivial⟩;rcases Nat.lt_or_ge k e with h | h
      ·exact hsc.out k h
      ·obtain rfl:k=e:=by omega
       rw [hre.out];exact fun e=>h10 (Option.some.inj e)
     case measure=>simp [intOf];omega
   ·obtain rfl:e=r.length:=by omega
    obtain ⟨q1,q2⟩:=sH 10 r r.length he hsc.out (.inl rfl);have hbad:=hid (hA.out.bad hr.out (q2.trans (by simp)))
    replace q1:=hid q1
    replace q2:=hid q2
    go_wp2_with fail
    go_ret2
    exact ⟨hB.out,.inr ⟨hbad.out,rfl⟩⟩
theorem Bl {w:World} {e:Ending} {w':World} (h:(∃ x val,(none:Option (List Sn))=some x∧e = .returned (.tuple #[val,.int .i64 0])∧∃ B,w.heap.size≤B∧bV B 44 3 w' val (x.map enS)) ∨
  ((none:Option (List Sn))=none∧e = .returned (.tuple #[.slice none 0 0,.int .i64 1]))):e = .returned (.tuple #[.slice none 0 0,.int .i64 1]):=by
 rcases h with ⟨_,_,h,_⟩ | ⟨_,h⟩
 ·cases h
 ·exact h
theorem RQ {B:Nat} {w:World} {v:Value} {ds:List D} (h:bV B 44 3 w v ds):RdD (fun k=>k<w.heap.size) w v (.list ds):=(h.rd (by decide)).mono (fun _ _=>rfl) (fun _ hb=>hb.2)
theorem EX (w:World):RdD (fun k=>k<w.heap.size) w (.slice none 0 0) (.list (([]:List Sn).map enS)):=RQ (B:=0) .nil
theorem Bj {w:World} {x:List Sn} {e:Ending} {w':World} (h:(∃ y val,some x=some y∧e = .returned (.tuple #[val,.int .i64 0])∧∃ B,w.heap.size≤B∧bV B 44 3 w' val (y.map enS)) ∨
  (some x=none∧e = .returned (.tuple #[.slice none 0 0,.int .i64 1]))):∃ val,e = .returned (.tuple #[val,.int .i64 0])∧RdD (fun k=>k<w'.heap.size) w' val (.list (x.map enS)):=by
 rcases h with ⟨_,val,h,he,B,_,hr⟩ | ⟨h,_⟩
 ·cases h;exact ⟨val,he,RQ hr⟩
 ·cases h
set_option maxHeartbeats 2000000 in
set_option maxRecDepth 100000 in
theorem Tryz.ahe (s:Str) (hs:16384<s.length) (w:World) :
  Calls Tryz.prog 5 #[.string ⟨s.toArray⟩] w fun e w'=>e = .returned (.tuple #[.slice none 0 0,.int .i64 2])∧Below w.heap.size w w':=by
 have hnl:(16384:Int)<(s.length:Int):=by omega
 refine (callsIn_wide (n:=6)).1 ?_;refine callsIn_of_wp_marks Tryz.func5 rfl trivial ?_ rfl;simp only [Tryz.ntmps5,List.size_toArray,List.length_cons,List.length_nil,Nat.reduceAdd,Nat.reduceSub,Array.replicate_succ,Array.replicate_zero,List.push_toArray,List.append_toArray,List.nil_append,List.cons_append]
 gi_wp2_with fail
 refine ⟨.tuple #[.slice none 0 0,.int .i64 2],?_,rfl,((Below.refl _ w).alloc (Nat.le_refl _) _).alloc (by simp) _⟩;have e2:((w.alloc (Obj.cells #[Value.slice none 0 0] 23)).alloc (Obj.cells #[Value.int IntKind.i64 2] 24)).cell? ⟨w.heap.size,0,none⟩=some (.slice none 0 0):=by rw [Lib.cell_of_heap ((heap_alloc_old _ _ (by simp)).trans (heap_alloc_new _ _))];rfl
 have e3:((w.alloc (Obj.cells #[Value.slice none 0 0] 23)).alloc (Obj.cells #[Value.int IntKind.i64 2] 24)).cell? ⟨w.heap.size+1,0,none⟩=some (.int .i64 2):=by
  have:=heap_alloc_new (w.alloc (Obj.cells #[Value.slice none 0 0] 23)) (Obj.cells #[Value.int IntKind.i64 2] 24);rw [World.size_alloc] at this;rw [Lib.cell_of_heap this];rfl
 simp [results,Tryz.results5,go_sem,e2,e3]
set_option maxHeartbeats 2000000 in
set_option maxRecDepth 100000 in
theorem Tryz.aeC (s:Str) (hs:16384<s.length) (w:World) :
  Calls Tryz.prog 6 #[.string ⟨s.toArray⟩] w fun e w'=>e = .returned (.tuple #[.slice none 0 0,.int .i64 2])∧Below w.heap.size w w':=by
 have hnl:(16384:Int)<(s.length:Int):=by omega
 have hsz:(⟨s.toArray⟩:ByteArray).size=s.length:=by simp [ByteArray.size]
 go_enter Tryz.func6,Tryz.ntmps6
 go_wp2_with fail
 go_ret2
 exact ⟨rfl,Below.refl _ _⟩
set_option maxHeartbeats 4000000 in
set_option maxRecDepth 100000 in
theorem Tryz.Qq (s:Str) (w:World) (hW:Tryz.Env w)
  (hA:∀ W,Below w.heap.size w W→Calls Tryz.prog 4 #[] W fun e w'=>e = .returned (.bool true)∧Below W.heap.size W w') :
  Calls Tryz.prog 3 #[.string ⟨s.toArray⟩] w fun e w'=>e = .returned (.bool true)∧Below w.heap.size w w':=by
 replace hA:=hid hA
 have hsz:(⟨s.toArray⟩:ByteArray).size=s.length:=by simp [ByteArray.size]
 go_enter Tryz.func3,Tryz.ntmps3
 by_cases h1:s.length≤2000
 ·have i1:¬ (2000:Int)<(s.length:Int):=by omega
  have i2:decide ((2000:Int)<(s.length:Int))=false:=decide_eq_false i1;have cP:=hid (Tryz.J8 s h1 w hW);have cR:=hid (fun W=>Tryz.Xu s (by omega) W);rw [Xt] at cP;generalize jV (s.length+1) s=res at cP cR;rcases res with _ | x
  ·go_wp2_with (first
    | (go_at_call 5;refine cP.out.mono ?_;rintro e w1 ⟨hb1,hp⟩;obtain rfl:=Bl hp;have H1:=hid hb1;clear hp)
    | (go_at_call 6;refine (cR.out w1).mono ?_;rintro e w2 ⟨hb2,hp⟩;obtain rfl:=Bl hp;have H2:=hid (H1.out.trans (hb2.mono H1.out.size));clear hp)
    | (go_at_call 4;refine (hA.out _ H2.out).mono ?_;rintro e w3 ⟨rfl,hb3⟩;have H3:=hid (H2.out.trans (hb3.mono H2.out.size)))
    | (go_at_call 7;refine (Tryz.Jz [] w3 _ _ (EX w3) (EX w3)).mono ?_;rintro e w4 ⟨rfl,hb4⟩))
   go_ret
   exact ⟨rfl,H3.out.trans (hb4.mono H3.out.size)⟩
  ·go_wp2_with (first
    | (go_at_call 5;refine cP.out.mono ?_;rintro e w1 ⟨hb1,hp⟩;obtain ⟨v1,rfl,hr1⟩:=Bj hp;have H1:=hid hb1;have R1:=hid hr1;clear hp hr1)
    | (go_at_call 6;refine (cR.out w1).mono ?_;rintro e w2 ⟨hb2,hp⟩;obtain ⟨v2,rfl,hr2⟩:=Bj hp;have H2:=hid (H1.out.trans (hb2.mono H1.out.size));have R2:=hid hr2;replace R1:=hid (aO hb2 R1.out);clear hp hr2)
    | (go_at_call 4;refine (hA.out _ H2.out).mono ?_;rintro e w3 ⟨rfl,hb3⟩;have H3:=hid (H2.out.trans (hb3.mono H2.out.size));replace R1:=hid (aO hb3 R1.out);replace R2:=hid (aO hb3 R2.out))
    | (go_at_call 7;refine (Tryz.Jz x w3 _ _ R1.out R2.out).mono ?_;rintro e w4 ⟨rfl,hb4⟩))
   go_ret
   exact ⟨rfl,H3.out.trans (hb4.mono H3.out.size)⟩
 ·by_cases h2:s.length≤16384
  ·have i1:(2000:Int)<(s.length:Int):=(by omega);have i2:(s.length:Int)≤16384:=by omega
   go_wp2_with (go_at_call 4;refine (hA.out _ (Below.refl _ _)).mono ?_;rintro e w3 ⟨rfl,h3⟩)
   go_ret
   exact ⟨rfl,h3⟩
  ·have i1:(2000:Int)<(s.length:Int):=(by omega);have i2:¬ (s.length:Int)≤16384:=(by omega);have cP:=hid (Tryz.ahe s (by omega) w);have cR:=hid (fun W=>Tryz.aeC s (by omega) W)
   go_wp2_with (first
    | (go_at_call 5;refine cP.out.mono ?_;rintro e w1 ⟨rfl,hb1⟩)
    | (go_at_call 6;refine (cR.out w1).mono ?_;rintro e w2 ⟨rfl,hb2⟩;have H2:=hid (hb1.trans (hb2.mono hb1.size)))
    | (go_at_call 4;refine (hA.out _ H2.out).mono ?_;rintro e w3 ⟨rfl,hb3⟩;have H3:=hid (H2.out.trans (hb3.mono H2.out.size)))
    | (go_at_call 7;refine (Tryz.Jz [] w3 _ _ (EX w3) (EX w3)).mono ?_;rintro e w4 ⟨rfl,hb4⟩))
   go_ret
   exact ⟨rfl,H3.out.trans (hb4.mono H3.out.size)⟩
end Go.Proofs
namespace Go.Proofs.YtpmapognbdiahaaGreatDoor
open Go Go.RowKit Go.ChangeShapes Go.WideShapes Go.ChangeAt
theorem J6 {H:Type} {enc:TypeId×Value→H} {P:Program} {f:Func} {s:ChangeSpec} {apart fresh handsOn again:Bool} {W W':World} {args:Array Value} {v:Value} {ds gs:List (DataW H)} {before pa pv:List MemPlace}
  (hW:DataW.Whole enc P f.params.toList s.vars apart W args.toList ds gs before) (hb:Below W.heap.size W W')
  (hres:∀ (b:Nat) (sp:Nat→Bool) (hd:Bool),DataW.TrodAll enc P W' b sp hd f.resultTypes.toList (v.resultList f.resultTypes.size) (s.fn H (ds++gs)).results [])
  (hargs:∀ sp:Nat→Bool,(∀ p∈before,sp p.block=true)→DataW.TrodAll enc P W' 0 sp true f.params.toList args.toList (s.fn H (ds++gs)).args pa)
  (hvars:∀ sp:Nat→Bool,(∀ p∈before,sp p.block=true)→DataW.TrodVars enc P W' sp s.vars (s.fn H (ds++gs)).vars pv)
  (hps:before=pa++pv)
  (hok:∀ (j:Nat) (t:TypeId) (r:Value),f.resultTypes[j]?=some t→(v.resultList f.resultTypes.size)[j]?=some r→Value.okWide P W' .any 0 t r) :
  s.post enc P f apart fresh handsOn again W args v W':=by
 have hlt:∀ p∈before,p.block<W.heap.size:=fun p hp=>by simpa using hW.lt p hp
 have hd:∀ p∈before,(fun b=>decide (b<W.heap.size)) p.block=true:=fun p hp=>by simpa using hlt p hp
 have ht:∀ p∈before,(fun _:Nat=>true) p.block=true:=fun _ _=>rfl
 refine ⟨ds,gs,before,[],pa,pv,hW,hres _ _ _,hargs _ hd,hvars _ hd,hb.frame _,fun _=>⟨hok,(s.fn H (ds++gs)).results++(s.fn H (ds++gs)).args,(s.fn H (ds++gs)).vars,before,⟨pa,pv,trodAll_append (hargs _ ht) (hres _ _ _),hvars _ ht,hps,fun b off hp=>?_,?_⟩,fun p hp _=>hp⟩⟩
 ·obtain ⟨_,_,_,_,_,hz,_⟩:=hW;exact (hb.frozen (hlt _ hp)).trans (hz b off hp)
 ·obtain ⟨_,_,_,_,_,_,hn⟩:=hW;exact hn
theorem own:ownKnob Tryz.prog.godebug=none:=by kernel_rfl
theorem laidOut:laidOutB Tryz.prog=true:=by kernel_rfl
set_option maxRecDepth 100000 in
theorem aey {W:World} (h:W.ShapedOpen Tryz.prog):∃ m:Int,W.cell? ⟨0,0,none⟩=some (.int .i64 m):=
 cell_of_shapedOpen_int (P:=Tryz.prog) (g:=0) (t:=3) (zero:=#[.int .i64 0]) h (of_decide_eq_true (by kernel_rfl)) (by kernel_rfl) rfl (by kernel_rfl) (by kernel_rfl) Tryz.underlying3
set_option maxRecDepth 100000 in
theorem Q8 {W:World} (h:∀ k∈([1,2]:List Nat),∃ cur t fz,W.heap[k]?=some (.cells cur t fz)∧cur.toList=(Abs.glw k).map dV):Tryz.Words W:=by
 obtain ⟨cur,t,fz,h1,h2⟩:=h 2 (by decide);obtain ⟨cur⟩:=cur;obtain rfl:cur=[.string ⟨#[105,102]⟩,.string ⟨#[97,110,100]⟩,.string ⟨#[110,111,116]⟩]:=h2.trans (by kernel_rfl);refine ⟨?_,?_,?_⟩<;>rw [Lib.cell_of_heap h1]<;>rfl
set_option maxRecDepth 100000 in
theorem contract (H:Type) (enc:TypeId×Value→H) (W:World) (args:Array Value) (ds gs:List (DataW H)) (before:List MemPlace) (base:Nat)
  (hval:∀ (j:Nat) t v,Tryz.f3.params[j]?=some t→args[j]?=some v→Value.okWide Tryz.prog W .any base t v)
  (hW:DataW.Whole enc Tryz.prog Tryz.f3.params.toList Rows.observeParsesSpec.vars false W args.toList ds gs before) (hL:laidMetH Tryz.prog Rows.observeParsesRow.laid W) (hS:W.ShapedOpen Tryz.prog) :
  Calls Tryz.prog 3 args W fun e W'=>∃ v,e = .returned v∧Rows.observeParsesSpec.post enc Tryz.prog Tryz.f3 false true false false W args v W':=by
 have hW':=hW;obtain ⟨p,q,hA0,hV,rfl,hfz,hnd⟩:=hW;have hA:DataW.TrodAll enc Tryz.prog W 0 (fun _=>true) true Tryz.f3.params.toList args.toList ds p:=hA0;rw [Tryz.params3] at hA hval;obtain ⟨v0,vs0,d0,ds0,p0,q0,hargs,rfl,rfl,h0,r0⟩:=trodAll_cons hA;obtain ⟨rfl,rfl,rfl⟩:=trodAll_nil r0;obtain rfl:args=#[v0]:=by cases args;simp_all
 obtain ⟨rfl,rfl⟩:=trodVars_none hV;clear hA0 hA;have hos:=Go.ChangeMaps.open_string Tryz.underlying9 (hval 0 9 v0 rfl rfl) h0;obtain ⟨s,rfl,rfl,rfl,_⟩:=hos;have hm:=aey hS;have hg:=QW hL;refine (Tryz.Qq s.data.toList W ⟨Q8 hg,hm⟩ fun W1 hb=>?_).mono fun e W' ⟨he,hg⟩=>?_
 ·refine Le ?_ fun k hk=>?_
  ·obtain ⟨m,hm⟩:=hm;exact ⟨m,(hb.cell (cell_lt hm)).trans hm⟩
  ·obtain ⟨cur,t,fz,h1,h2⟩:=hg k hk;exact ⟨cur,t,fz,(hb.block k (Array.getElem?_eq_some_iff.1 h1).1).trans h1,h2⟩
 subst he;have hlt:∀ x∈([]:List MemPlace)++[]++[],x.block<W.heap.size:=fun x hx=>by simpa using hW'.lt x hx
 refine ⟨_,rfl,J6 (pa:=[]++[]) (pv:=[]) hW' hg (fun _ _ _=>trodAll_cons_mk (shut_bool Tryz.underlying4 _) trodAll_mk0) (fun sp hs=>?_) (fun _ _=>rfl) rfl (ok_one (by kernel_rfl) rfl (okWide_bool_mk Tryz.underlying4 _))⟩;have e0:=WideElems.Trod_stays (sp':=sp) (W':=W') laidOut (by kernel_rfl) (of_decide_eq_true (by kernel_rfl)) h0 (fun x hx=>hg.same (hlt x (by simp [hx]))) (fun x hx=>hs x (by simp [hx]));exact trodAll_cons_mk e0 trodAll_mk0
end Go.Proofs.YtpmapognbdiahaaGreatDoor
