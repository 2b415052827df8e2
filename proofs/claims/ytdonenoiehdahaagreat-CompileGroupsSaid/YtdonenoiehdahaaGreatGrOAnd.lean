/- Walks: the reference's least levels. -/
import Derived.Test.YtdonenoiehdahaaGreatGrJAnd
import Derived.Test.YtdonenoiehdahaaGreatKeysRAnd
import Derived.StillTailTactics
import Derived.Sort.Walk0
import Derived.Sort.Grow
import Derived.Shelf.SlSortCmp.SmallK
set_option linter.all false
namespace Go.Proofs.YtdonenoiehdahaaGreat
open Go Go.Abs Go.Own
attribute [local irreducible] WP
def egD (e:Eg):D := .agg [.str e.1,.str e.2.1,.bool e.2.2]
theorem Xu {l:List Eg} {i:Nat} (h:i<l.length):(l.map egD)[((i:Int)).toNat]?=some (.agg [.str l[i].1,.str l[i].2.1,.bool l[i].2.2]):=aN h
def lvD (names:List Str) (lv:Str→Nat):List D:=names.map fun n=>enV (n,((lv n:Nat):Int))
def badR (k:Nat):Bool→Nat→Bool:=fun _ need=>decide (k<need)
def jy (names:List Str) (E:List Eg):Option (Str→Nat):=bG (badR names.length) E (room names.length names (fun _=>0)+1) (fun _=>0)
def Kz (up:Bool) (lv:Str→Nat) (x:Str) (v:Nat):Str→Nat:=match up with | true=>raise lv x v | false=>lv
theorem rX (bad:Bool→Nat→Bool) (e:Eg) (E:List Eg) (lv:Str→Nat) (m:Bool):dM bad (e::E) lv m=match bad (decide (lv e.1<lv e.2.1+fA e)) (lv e.2.1+fA e) with
  | true=>none
  | false=>dM bad E (Kz (decide (lv e.1<lv e.2.1+fA e)) lv e.1 (lv e.2.1+fA e)) (m||decide (lv e.1<lv e.2.1+fA e)):=rfl
def qc (names:List Str) (lw lv:Str→Nat) (k:Nat):List D:=lvD (names.take k) lv++lvD (names.drop k) lw
theorem Iq (names:List Str) (lw lv:Str→Nat):qc names lw lv 0=lvD names lw:=by simp [qc,lvD]
theorem Iu (names:List Str) (lw lv:Str→Nat):qc names lw lv names.length=lvD names lv:=by simp [qc,lvD]
theorem J6 {names:List Str} {lw lv:Str→Nat} {k:Nat} (h:k<names.length):qc names lw lv k=lvD (names.take k) lv++enV (names[k],((lw names[k]:Nat):Int))::lvD (names.drop (k+1)) lw:=by
 unfold qc;rw [List.drop_eq_getElem_cons h];rfl
theorem MK {names:List Str} {lw lv:Str→Nat} {k:Nat} (h:k<names.length):(qc names lw lv k)[k]?=some (enV (names[k],((lw names[k]:Nat):Int))):=by
 have hl:(lvD (names.take k) lv).length=k:=by simp [lvD];omega
 rw [J6 h,List.getElem?_append_right (by omega),hl];simp
theorem Ir {names:List Str} {lw lv:Str→Nat} {k:Nat} (h:k<names.length):lvD (names.take k) lv++enV (names[k],((lv names[k]:Nat):Int))::lvD (names.drop (k+1)) lw=qc names lw lv (k+1):=by
 unfold qc lvD;rw [List.take_succ_eq_append_getElem h,List.map_append,List.append_assoc];rfl
theorem uj {names:List Str} {lw lv:Str→Nat} {k:Nat} (h:k<names.length) (he:lv names[k]=lw names[k]):qc names lw lv k=qc names lw lv (k+1):=by
 rw [J6 h,← he,Ir h]
theorem MJ {names:List Str} {lw lv:Str→Nat} {k:Nat} (h:k<names.length):(qc names lw lv k).set k (enV (names[k],((lv names[k]:Nat):Int)))=qc names lw lv (k+1):=by
 have hl:(lvD (names.take k) lv).length=k:=by simp [lvD];omega
 rw [J6 h,List.set_append_right _ _ (by omega),hl,Nat.sub_self,List.set_cons_zero,Ir h]
theorem KG {to':Str} {lw:Str→Nat}:∀ {names:List Str},to'∈names→ofL to' (names.map fun n=>(n,((lw n:Nat):Int)))=lw to'
 | n::l,h=>by
   rw [List.map_cons,ofL];by_cases e:n=to'
   ·rw [if_pos e,e]
   ·rw [if_neg e];exact KG (by rcases List.mem_cons.1 h with h | h;exact absurd h.symm e;exact h)
theorem KQ (names:List Str) (lw:Str→Nat):lvD names lw=(names.map fun n=>(n,((lw n:Nat):Int))).map enV:=by unfold lvD;rw [List.map_map];rfl
theorem Tryz.Zq (names:List Str) (E:List Eg) (hm:∀ e∈E,e.1∈names∧e.2.1∈names) (hn:names.length≤64) (hE:E.length≤10000) :
  Pure Tryz.prog 83 [.list (E.map egD),.list (names.map D.str)] (match jy names E with | some lv=>[.list (lvD names lv),.bool true] | none=>[.list [],.bool false]):=by
 refine Pure.of_wp hT (nt:=_) (c:=_) Tryz.func83 rfl rfl rfl rfl (by kernel_rfl) ?_;intro w0 ok0 β0;repeat (refine gw rfl ?_;conv=>whnf)
 refine WP.loop (α:=Nat) (fun i=>⟨[(0,.d (.list (E.map egD))),(1,.d (.list (names.map D.str))),(6,.sl 6 2 0 i),(7,.d (.int .i64 i))],[((6,0),some (.arr 2 (lvD (names.take i) fun _=>0)))],[6]⟩) (fun i=>i≤names.length) (fun i=>names.length-i) 0 [(6,none)] [] ?_ ?_ ?_
 ·((conv=>whnf);repeat (first | exact ⟨⟩ | (refine ⟨by first | rfl | (simp;done) | (simp;omega),?_⟩;conv=>whnf)))
 ·exact Nat.zero_le _
 ·intro i hi;repeat (refine gw rfl ?_;conv=>whnf)
  rw [List.length_map];(split<;>rename_i hb<;>(try rw [hb])<;>(conv=>whnf))
  ·have hlt:i<names.length:=(by simpa using hb);clear hb;(repeat (refine gw rfl ?_;conv=>whnf));refine ⟨by omega,_,aN hlt,rfl,?_⟩;(conv=>whnf);refine ⟨rfl,?_⟩;(conv=>whnf);refine ⟨rfl,?_⟩;(conv=>whnf);refine ⟨(names.take i).map fun n=>enV (n,0),by rw [List.drop_zero];exact List.take_of_length_le (by simp only [lvD,List.length_map,List.length_take];omega),by simp only [lvD,List.length_map,List.length_take];omega,?_⟩;(conv=>whnf);refine ⟨_,rfl,Nat.le_refl _,?_⟩;(conv=>whnf);refine ⟨by show (_+1)*24≤_;simp only [List.length_map,List.length_take];omega,?_⟩;(conv=>whnf);(repeat (refine gw rfl ?_;conv=>whnf));refine ⟨by omega,?_⟩;(conv=>whnf);refine ⟨i+1,[(6,some 25)],[],?_,by omega,by omega⟩;have e1:((names.take i).map fun n=>enV (n,0)).length+(List.take [D.agg [D.str names[i],D.int .i64 0]].length (List.drop 0 [D.agg [D.str names[i],D.int .i64 0]])).length=i+1:=(by simp only [List.length_map,List.length_take,List.drop_zero,List.length_singleton];omega);have e2:((names.take i).map fun n=>enV (n,0))++List.take [D.agg [D.str names[i],D.int .i64 0]].length (List.drop 0 [D.agg [D.str names[i],D.int .i64 0]])=lvD (names.take (i+1)) fun _=>0:=by
    unfold lvD;rw [List.take_succ_eq_append_getElem hlt,List.map_append];rfl
   rw [e1,e2];((conv=>whnf);repeat (first | exact ⟨⟩ | (refine ⟨by first | rfl | (simp;done) | (simp;omega),?_⟩;conv=>whnf)))
  ·have:i=names.length:=(by simp at hb;omega);subst this;clear hb;rw [List.take_length];(repeat (refine gw rfl ?_;conv=>whnf));refine WP.loop (α:=(Str→Nat)×Bool×Nat) (fun y=>⟨[(0,.d (.list (E.map egD))),(1,.d (.list (names.map D.str))),(6,.sl 6 2 0 names.length),(8,.d (.bool y.2.1))],[((6,0),some (.arr 2 (lvD names y.1)))],[6]⟩)
    (fun y=>match y.2.1 with | true=>jy names E=bG (badR names.length) E y.2.2 y.1∧room names.length names y.1<y.2.2∧∀ x∈names,y.1 x≤names.length | false=>jy names E=some y.1∧y.2.2=0) (fun y=>y.2.2) (fun _=>0,true,room names.length names (fun _=>0)+1) [(6,some 6)] [] ?_ ?_ ?_
   ·((conv=>whnf);repeat (first | exact ⟨⟩ | (refine ⟨by first | rfl | (simp;done) | (simp;omega),?_⟩;conv=>whnf)))
   ·exact ⟨rfl,Nat.lt_succ_self _,fun x _=>Nat.zero_le _⟩
   ·rintro ⟨lv,more,F⟩ hI;cases more with
    | false=>
      obtain ⟨hI,_⟩:=hI;dsimp only at hI;rw [hI];(repeat (refine gw rfl ?_;conv=>whnf));refine ⟨lvD names lv,by rw [List.drop_zero];exact List.take_of_length_le (by simp [lvD]),by simp [lvD],?_⟩;conv=>whnf
    | true=>
      obtain ⟨hI,hF,hl0⟩:=hI;dsimp only at hI hF hl0 ⊢;obtain ⟨F,rfl⟩:∃ F',F=F'+1:=⟨F-1,by omega⟩
      (repeat (refine gw rfl ?_;conv=>whnf));refine WP.loop (α:=(Str→Nat)×Bool×Nat) (fun y=>⟨[(0,.d (.list (E.map egD))),(1,.d (.list (names.map D.str))),(6,.sl 6 2 0 names.length),(8,.d (.bool y.2.1)),(9,.d (.int .i64 y.2.2))],[((6,0),some (.arr 2 (lvD names y.1)))],[6]⟩)
       (fun y=>y.2.2≤E.length∧dM (badR names.length) E lv false=dM (badR names.length) (E.drop y.2.2) y.1 y.2.1∧∀ x∈names,y.1 x≤names.length) (fun y=>E.length-y.2.2) (lv,false,0) [(6,some 6)] [] ?_ ?_ ?_
      ·((conv=>whnf);repeat (first | exact ⟨⟩ | (refine ⟨by first | rfl | (simp;done) | (simp;omega),?_⟩;conv=>whnf)))
      ·exact ⟨Nat.zero_le _,rfl,hl0⟩
      ·rintro ⟨lw,mo,j⟩ ⟨hj,hrel,hlw⟩;dsimp only at hj hrel hlw ⊢;(repeat (refine gw rfl ?_;conv=>whnf));rw [List.length_map];(split<;>rename_i hb<;>(try rw [hb])<;>(conv=>whnf))
       ·have hjl:j<E.length:=(by simpa using hb);clear hb;(repeat (refine gw rfl ?_;conv=>whnf));have hej:E[j]∈E:=List.getElem_mem hjl;obtain ⟨hfm,htm⟩:=hm E[j] hej;refine ⟨by omega,_,Xu hjl,rfl,?_⟩;(conv=>whnf);have hof:=Tryz.aec (names.map fun n=>(n,((lw n:Nat):Int))) E[j].2.1 (by rw [List.length_map];omega);rw [← KQ,KG htm] at hof;refine .inl ⟨lvD names lw,by rw [List.drop_zero];exact List.take_of_length_le (by simp [lvD]),by simp [lvD],_,hof,.inr rfl,?_⟩;(conv=>whnf);(repeat (refine gw rfl ?_;conv=>whnf));refine ⟨by omega,_,Xu hjl,rfl,?_⟩;(conv=>whnf);(repeat (refine gw rfl ?_;conv=>whnf));cases hng:E[j].2.2 with
        | false=>
          have hnd:lw E[j].2.1+fA E[j]=lw E[j].2.1:=(by unfold fA;rw [hng];rfl);have hstep:=hrel;rw [List.drop_eq_getElem_cons hjl,rX,hnd] at hstep;obtain ⟨up,hup⟩:∃ up,up=decide (lw E[j].1<lw E[j].2.1):=⟨_,rfl⟩
          rw [← hup] at hstep;obtain ⟨lz,hlz⟩:∃ lz,lz=Kz up lw E[j].1 (lw E[j].2.1):=⟨_,rfl⟩
          rw [← hlz] at hstep;have hlt1:=hlw E[j].2.1 htm;(conv=>whnf);(repeat (refine gw rfl ?_;conv=>whnf));refine WP.loop (α:=Nat) (fun k=>⟨[(0,.d (.list (E.map egD))),(1,.d (.list (names.map D.str))),(6,.sl 6 2 0 names.length),(8,.d (.bool (mo||(names.take k).any fun n=>decide (n=E[j].1)&&up))),(9,.d (.int .i64 j)),(10,.d (.int .i64 ((lw E[j].2.1:Nat):Int))),(11,.d (.int .i64 k))],[((6,0),some (.arr 2 (qc names lw lz k)))],[6]⟩)
           (fun k=>k≤names.length) (fun k=>names.length-k) 0 [(6,some 6)] [] ?_ ?_ ?_
          ·rw [Iq,List.take_zero,List.any_nil,Bool.or_false];((conv=>whnf);repeat (first | exact ⟨⟩ | (refine ⟨by first | rfl | (simp;done) | (simp;omega),?_⟩;conv=>whnf)))
          ·exact Nat.zero_le _
          ·intro k hk;(repeat (refine gw rfl ?_;conv=>whnf));(split<;>rename_i hb<;>(try rw [hb])<;>(conv=>whnf))
           ·have hkl:k<names.length:=(by simpa using hb);clear hb;have hget:=MK (lw:=lw) (lv:=lz) hkl;have htak:∀ p:Str→Bool,(names.take (k+1)).any p=((names.take k).any p||p names[k]):=fun p=>by
             rw [List.take_succ_eq_append_getElem hkl,List.any_append];simp
            (repeat (refine gw rfl ?_;conv=>whnf));refine ⟨by omega,?_⟩;rw [Int.toNat_natCast];(conv=>whnf);refine ⟨_,by rw [Nat.zero_add];exact hget,?_⟩;(conv=>whnf);refine ⟨by omega,_,Xu hjl,rfl,?_⟩;(conv=>whnf);by_cases en:names[k]=E[j].1
            ·rw [show (names[k]==E[j].1)=true by simpa using en];(conv=>whnf);refine ⟨by omega,?_⟩;rw [Int.toNat_natCast];(conv=>whnf);refine ⟨_,by rw [Nat.zero_add];exact hget,?_⟩;(conv=>whnf);have hcd:decide (((lw names[k]:Nat):Int)<((lw E[j].2.1:Nat):Int))=up:=by
              rw [hup,en,Bool.eq_iff_iff];simp<;>omega
             rw [hcd];refine W7 ?_ rfl;(conv=>whnf);cases up with
             | true=>
               have hz:lz names[k]=lw E[j].2.1:=(by rw [hlz,en];exact Es _ _ _);(conv=>whnf);refine W1 ?_;refine W2 hT hM [] ?_;(conv=>whnf);refine ⟨by omega,?_⟩;rw [Int.toNat_natCast];(conv=>whnf);refine ⟨rfl,_,by rw [Nat.zero_add];exact hget,?_⟩;(conv=>whnf);refine .inr ⟨_,rfl,⟨rfl,by decide⟩,?_⟩;(conv=>whnf);(repeat (refine gw rfl ?_;conv=>whnf));refine ⟨by omega,?_⟩;(conv=>whnf);refine ⟨k+1,[(6,some 6)],[],?_,by omega,by omega⟩;have e2:(qc names lw lz k).set (0+k) (D.agg (qm [D.str (names[k],((lw names[k]:Nat):Int)).1,D.int .i64 (names[k],((lw names[k]:Nat):Int)).2] (0+1) (D.int .i64 ((lw E[j].2.1:Nat):Int)).cells))=qc names lw lz (k+1):=by
                rw [Nat.zero_add,← MJ hkl,hz];rfl
               have e3:(mo||(names.take (k+1)).any fun n=>decide (n=E[j].1)&&true)=true:=by
                rw [htak,decide_eq_true en];simp
               rw [e2,e3];((conv=>whnf);repeat (first | exact ⟨⟩ | (refine ⟨by first | rfl | (simp;done) | (simp;omega),?_⟩;conv=>whnf)))
             | false=>
               have hkeep:lz names[k]=lw names[k]:=(by rw [hlz];rfl);(conv=>whnf);(repeat (refine gw rfl ?_;conv=>whnf));refine ⟨by omega,?_⟩;(conv=>whnf);refine ⟨k+1,[(6,some 6)],[],?_,by omega,by omega⟩;rw [← uj hkl hkeep,htak,Bool.and_false,Bool.or_false];((conv=>whnf);repeat (first | exact ⟨⟩ | (refine ⟨by first | rfl | (simp;done) | (simp;omega),?_⟩;conv=>whnf)))
            ·rw [show (names[k]==E[j].1)=false by simpa using en];have hkeep:lz names[k]=lw names[k]:=by
              rw [hlz];cases up with
              | true=>show raise lw E[j].1 _ names[k]=_;unfold raise;rw [if_neg en]
              | false=>rfl
             (conv=>whnf);(repeat (refine gw rfl ?_;conv=>whnf));refine ⟨by omega,?_⟩;(conv=>whnf);refine ⟨k+1,[(6,some 6)],[],?_,by omega,by omega⟩;rw [← uj hkl hkeep,htak,decide_eq_false en,Bool.false_and,Bool.or_false];((conv=>whnf);repeat (first | exact ⟨⟩ | (refine ⟨by first | rfl | (simp;done) | (simp;omega),?_⟩;conv=>whnf)))
           ·have:k=names.length:=(by simp at hb;omega);subst this;clear hb;have hany:(names.any fun n=>decide (n=E[j].1)&&up)=up:=by
             cases up with
             | false=>simp
             | true=>simp only [Bool.and_true];exact List.any_eq_true.2 ⟨E[j].1,hfm,by simp⟩
            rw [List.take_length,hany,Iu];(repeat (refine gw rfl ?_;conv=>whnf));rw [List.length_map];cases hbg:decide (((lw E[j].2.1:Nat):Int)>((names.length:Nat):Int)) with
            | true=>
              have hb1:badR names.length up (lw E[j].2.1)=true:=(by unfold badR;exact decide_eq_true (by have:=of_decide_eq_true hbg;omega));rw [hb1] at hstep;unfold bG at hI;rw [hstep] at hI;rw [hI];(conv=>whnf);repeat (refine gw rfl ?_;conv=>whnf)
            | false=>
              have hle:lw E[j].2.1≤names.length:=(by have:=of_decide_eq_false hbg;omega);have hb1:badR names.length up (lw E[j].2.1)=false:=(by unfold badR;exact decide_eq_false (by omega));rw [hb1] at hstep;(conv=>whnf);(repeat (refine gw rfl ?_;conv=>whnf));refine ⟨by omega,?_⟩;(conv=>whnf);refine ⟨(lz,mo||up,j+1),[(6,some 6)],[],?_,⟨by dsimp only;omega,hstep,fun x hx=>?_⟩,by dsimp only;omega⟩
              ·((conv=>whnf);repeat (first | exact ⟨⟩ | (refine ⟨by first | rfl | (simp;done) | (simp;omega),?_⟩;conv=>whnf)))
              ·dsimp only;rw [hlz];cases up with
               | true=>
                 show raise lw E[j].1 (lw E[j].2.1) x≤_;unfold raise;split
                 ·exact hle
                 ·exact hlw x hx
               | false=>exact hlw x hx
        | true=>
          have hnd:lw E[j].2.1+fA E[j]=lw E[j].2.1+1:=(by unfold fA;rw [hng]);have hstep:=hrel;rw [List.drop_eq_getElem_cons hjl,rX,hnd] at hstep;obtain ⟨up,hup⟩:∃ up,up=decide (lw E[j].1<lw E[j].2.1+1):=⟨_,rfl⟩
          rw [← hup] at hstep;obtain ⟨lz,hlz⟩:∃ lz,lz=Kz up lw E[j].1 (lw E[j].2.1+1):=⟨_,rfl⟩
          rw [← hlz] at hstep;have hlt1:=hlw E[j].2.1 htm;(conv=>whnf);(repeat (refine gw rfl ?_;conv=>whnf));refine ⟨by omega,?_⟩;(conv=>whnf);(repeat (refine gw rfl ?_;conv=>whnf));refine WP.loop (α:=Nat) (fun k=>⟨[(0,.d (.list (E.map egD))),(1,.d (.list (names.map D.str))),(6,.sl 6 2 0 names.length),(8,.d (.bool (mo||(names.take k).any fun n=>decide (n=E[j].1)&&up))),(9,.d (.int .i64 j)),(10,.d (.int .i64 ((lw E[j].2.1+1:Nat):Int))),(11,.d (.int .i64 k))],[((6,0),some (.arr 2 (qc names lw lz k)))],[6]⟩)
           (fun k=>k≤names.length) (fun k=>names.length-k) 0 [(6,some 6)] [] ?_ ?_ ?_
          ·rw [Iq,List.take_zero,List.any_nil,Bool.or_false];((conv=>whnf);repeat (first | exact ⟨⟩ | (refine ⟨by first | rfl | (simp;done) | (simp;omega),?_⟩;conv=>whnf)))
          ·exact Nat.zero_le _
          ·intro k hk;(repeat (refine gw rfl ?_;conv=>whnf));(split<;>rename_i hb<;>(try rw [hb])<;>(conv=>whnf))
           ·have hkl:k<names.length:=(by simpa using hb);clear hb;have hget:=MK (lw:=lw) (lv:=lz) hkl;have htak:∀ p:Str→Bool,(names.take (k+1)).any p=((names.take k).any p||p names[k]):=fun p=>by
             rw [List.take_succ_eq_append_getElem hkl,List.any_append];simp
            (repeat (refine gw rfl ?_;conv=>whnf));refine ⟨by omega,?_⟩;rw [Int.toNat_natCast];(conv=>whnf);refine ⟨_,by rw [Nat.zero_add];exact hget,?_⟩;(conv=>whnf);refine ⟨by omega,_,Xu hjl,rfl,?_⟩;(conv=>whnf);by_cases en:names[k]=E[j].1
            ·rw [show (names[k]==E[j].1)=true by simpa using en];(conv=>whnf);refine ⟨by omega,?_⟩;rw [Int.toNat_natCast];(conv=>whnf);refine ⟨_,by rw [Nat.zero_add];exact hget,?_⟩;(conv=>whnf);have hcd:decide (((lw names[k]:Nat):Int)<((lw E[j].2.1+1:Nat):Int))=up:=by
              rw [hup,en,Bool.eq_iff_iff];simp<;>omega
             rw [hcd];refine W7 ?_ rfl;(conv=>whnf);cases up with
             | true=>
               have hz:lz names[k]=lw E[j].2.1+1:=(by rw [hlz,en];exact Es _ _ _);(conv=>whnf);refine W1 ?_;refine W2 hT hM [] ?_;(conv=>whnf);refine ⟨by omega,?_⟩;rw [Int.toNat_natCast];(conv=>whnf);refine ⟨rfl,_,by rw [Nat.zero_add];exact hget,?_⟩;(conv=>whnf);refine .inr ⟨_,rfl,⟨rfl,by decide⟩,?_⟩;(conv=>whnf);(repeat (refine gw rfl ?_;conv=>whnf));refine ⟨by omega,?_⟩;(conv=>whnf);refine ⟨k+1,[(6,some 6)],[],?_,by omega,by omega⟩;have e2:(qc names lw lz k).set (0+k) (D.agg (qm [D.str (names[k],((lw names[k]:Nat):Int)).1,D.int .i64 (names[k],((lw names[k]:Nat):Int)).2] (0+1) (D.int .i64 ((lw E[j].2.1+1:Nat):Int)).cells))=qc names lw lz (k+1):=by
                rw [Nat.zero_add,← MJ hkl,hz];rfl
               have e3:(mo||(names.take (k+1)).any fun n=>decide (n=E[j].1)&&true)=true:=by
                rw [htak,decide_eq_true en];simp
               rw [e2,e3];((conv=>whnf);repeat (first | exact ⟨⟩ | (refine ⟨by first | rfl | (simp;done) | (simp;omega),?_⟩;conv=>whnf)))
             | false=>
               have hkeep:lz names[k]=lw names[k]:=(by rw [hlz];rfl);(conv=>whnf);(repeat (refine gw rfl ?_;conv=>whnf));refine ⟨by omega,?_⟩;(conv=>whnf);refine ⟨k+1,[(6,some 6)],[],?_,by omega,by omega⟩;rw [← uj hkl hkeep,htak,Bool.and_false,Bool.or_false];((conv=>whnf);repeat (first | exact ⟨⟩ | (refine ⟨by first | rfl | (simp;done) | (simp;omega),?_⟩;conv=>whnf)))
            ·rw [show (names[k]==E[j].1)=false by simpa using en];have hkeep:lz names[k]=lw names[k]:=by
              rw [hlz];cases up with
              | true=>show raise lw E[j].1 _ names[k]=_;unfold raise;rw [if_neg en]
              | false=>rfl
             (conv=>whnf);(repeat (refine gw rfl ?_;conv=>whnf));refine ⟨by omega,?_⟩;(conv=>whnf);refine ⟨k+1,[(6,some 6)],[],?_,by omega,by omega⟩;rw [← uj hkl hkeep,htak,decide_eq_false en,Bool.false_and,Bool.or_false];((conv=>whnf);repeat (first | exact ⟨⟩ | (refine ⟨by first | rfl | (simp;done) | (simp;omega),?_⟩;conv=>whnf)))
           ·have:k=names.length:=(by simp at hb;omega);subst this;clear hb;have hany:(names.any fun n=>decide (n=E[j].1)&&up)=up:=by
             cases up with
             | false=>simp
             | true=>simp only [Bool.and_true];exact List.any_eq_true.2 ⟨E[j].1,hfm,by simp⟩
            rw [List.take_length,hany,Iu];(repeat (refine gw rfl ?_;conv=>whnf));rw [List.length_map];cases hbg:decide (((lw E[j].2.1+1:Nat):Int)>((names.length:Nat):Int)) with
            | true=>
              have hb1:badR names.length up (lw E[j].2.1+1)=true:=(by unfold badR;exact decide_eq_true (by have:=of_decide_eq_true hbg;omega));rw [hb1] at hstep;unfold bG at hI;rw [hstep] at hI;rw [hI];(conv=>whnf);repeat (refine gw rfl ?_;conv=>whnf)
            | false=>
              have hle:lw E[j].2.1+1≤names.length:=(by have:=of_decide_eq_false hbg;omega);have hb1:badR names.length up (lw E[j].2.1+1)=false:=(by unfold badR;exact decide_eq_false (by omega));rw [hb1] at hstep;(conv=>whnf);(repeat (refine gw rfl ?_;conv=>whnf));refine ⟨by omega,?_⟩;(conv=>whnf);refine ⟨(lz,mo||up,j+1),[(6,some 6)],[],?_,⟨by dsimp only;omega,hstep,fun x hx=>?_⟩,by dsimp only;omega⟩
              ·((conv=>whnf);repeat (first | exact ⟨⟩ | (refine ⟨by first | rfl | (simp;done) | (simp;omega),?_⟩;conv=>whnf)))
              ·dsimp only;rw [hlz];cases up with
               | true=>
                 show raise lw E[j].1 (lw E[j].2.1+1) x≤_;unfold raise;split
                 ·exact hle
                 ·exact hlw x hx
               | false=>exact hlw x hx
       ·have:j=E.length:=(by simp at hb;omega);subst this;clear hb;rw [List.drop_length] at hrel;have hrel:dM (badR names.length) E lv false=some (lw,mo):=hrel;(repeat (refine gw rfl ?_;conv=>whnf));unfold bG at hI;rw [hrel] at hI;cases mo with
        | true=>
          refine ⟨(lw,true,F),[(6,some 6)],[],?_,⟨hI,?_,hlw⟩,Nat.lt_succ_self _⟩
          ·((conv=>whnf);repeat (first | exact ⟨⟩ | (refine ⟨by first | rfl | (simp;done) | (simp;omega),?_⟩;conv=>whnf)))
          ·rcases nC (names:=names) (k:=names.length) (fun u n h _=>by unfold badR at h;have:=of_decide_eq_false h;omega) hm hrel with h | h
           ·cases h
           ·dsimp only;omega
        | false=>
          refine ⟨(lw,false,0),[(6,some 6)],[],?_,⟨hI,rfl⟩,Nat.succ_pos _⟩;((conv=>whnf);repeat (first | exact ⟨⟩ | (refine ⟨by first | rfl | (simp;done) | (simp;omega),?_⟩;conv=>whnf)))
def nmS (atoms:List Tm):List Str:=atoms.foldl (fun l t=>vO l t.name) []
theorem WO {atoms:List Tm} {i:Nat} (h:i<atoms.length):nmS (atoms.take (i+1))=vO (nmS (atoms.take i)) atoms[i].name:=by
 unfold nmS;rw [List.take_succ_eq_append_getElem h,List.foldl_append];rfl
theorem WQ (atoms:List Tm):(nmS atoms).length≤atoms.length:=by
 have key:∀ (l:List Tm) (a:List Str),(l.foldl (fun l t=>vO l t.name) a).length≤a.length+l.length:=fun l=>by
  induction l with
  | nil=>intro a;exact Nat.le_refl _
  | cons t l ih=>
    intro a;have h1:=ih (vO a t.name);have h2:=Zz a t.name;simp only [List.foldl_cons,List.length_cons];omega
 have:=key atoms [];unfold nmS
 simpa using this
theorem Dk {atoms:List Tm} {x:Str}:x∈nmS atoms↔∃ t∈atoms,t.name=x:=by
 have key:∀ (l:List Tm) (a:List Str),x∈l.foldl (fun l t=>vO l t.name) a↔x∈a∨∃ t∈l,t.name=x:=fun l=>by
  induction l with
  | nil=>intro a;simp
  | cons t l ih=>
    intro a;rw [List.foldl_cons,ih,Xr];constructor
    ·rintro ((h | h) | ⟨u,hu,he⟩)
     ·exact .inr ⟨t,by simp,h.symm⟩
     ·exact .inl h
     ·exact .inr ⟨u,by simp [hu],he⟩
    ·rintro (h | ⟨u,hu,he⟩)
     ·exact .inl (.inr h)
     ·rcases List.mem_cons.1 hu with rfl | hu
      ·exact .inl (.inl he.symm)
      ·exact .inr ⟨u,hu,he⟩
 have:=key atoms [];unfold nmS
 simpa using this
def nameAt (atoms:List Tm) (i:Int):Str:=match atoms[i.toNat]? with | some t=>t.name | none=>[]
def jD (atoms:List Tm) (r:Gr) (k:Nat):Eg:=match decide (k<r.2.1.length) with
 | true=>(nameAt atoms r.1,nameAt atoms ((r.2.1[k]?).getD 0),false)
 | false=>(nameAt atoms r.1,nameAt atoms ((r.2.2[k-r.2.1.length]?).getD 0),true)
def dH (E:List Eg) (e:Eg):List Eg:=match E.any (fun x=>decide (x=e)) with | true=>E | false=>E++[e]
theorem YN {E:List Eg} {e x:Eg}:x∈dH E e↔x∈E∨x=e:=by
 unfold dH;cases h:E.any (fun x=>decide (x=e)) with
 | true=>
   have hm:e∈E:=by
    obtain ⟨y,hy,he⟩:=List.any_eq_true.1 h;rw [← of_decide_eq_true he];exact hy
   exact ⟨.inl,fun h=>h.elim id fun e'=>e' ▸ hm⟩
 | false=>simp
def egR (atoms:List Tm) (r:Gr) (E:List Eg) (k:Nat):List Eg:=(List.range k).foldl (fun E j=>dH E (jD atoms r j)) E
theorem lX (atoms:List Tm) (r:Gr) (E:List Eg) (k:Nat):egR atoms r E (k+1)=dH (egR atoms r E k) (jD atoms r k):=by
 unfold egR;rw [List.range_succ,List.foldl_append];rfl
theorem TY {atoms:List Tm} {r:Gr} {E:List Eg} {x:Eg}:∀ {k:Nat},x∈egR atoms r E k↔x∈E∨∃ j,j<k∧x=jD atoms r j
 | 0=>by simp [egR]
 | k+1=>by
   rw [lX,YN,TY];constructor
   ·rintro ((h | ⟨j,hj,he⟩) | h)
    ·exact .inl h
    ·exact .inr ⟨j,by omega,he⟩
    ·exact .inr ⟨k,by omega,h⟩
   ·rintro (h | ⟨j,hj,he⟩)
    ·exact .inl (.inl h)
    ·rcases Nat.lt_or_ge j k with h1 | h1
     ·exact .inl (.inr ⟨j,h1,he⟩)
     ·obtain rfl:j=k:=by omega
      exact .inr he
def szR (r:Gr):Nat:=r.2.1.length+r.2.2.length
def iJ (atoms:List Tm) (rules:List Gr) (E:List Eg):List Eg:=rules.foldl (fun E r=>egR atoms r E (szR r)) E
theorem JC {atoms:List Tm} {rules:List Gr} {E:List Eg} {i:Nat} (h:i<rules.length):iJ atoms (rules.take (i+1)) E=egR atoms rules[i] (iJ atoms (rules.take i) E) (szR rules[i]):=by
 unfold iJ;rw [List.take_succ_eq_append_getElem h,List.foldl_append];rfl
theorem TW {atoms:List Tm} {x:Eg}:∀ {rules:List Gr} {E:List Eg},x∈iJ atoms rules E↔x∈E∨∃ r∈rules,∃ j,j<szR r∧x=jD atoms r j
 | [],E=>by simp [iJ]
 | r::l,E=>by
   show x∈iJ atoms l (egR atoms r E (szR r))↔_;rw [TW,TY];constructor
   ·rintro ((h | h) | ⟨r',hr',h⟩)
    ·exact .inl h
    ·exact .inr ⟨r,by simp,h⟩
    ·exact .inr ⟨r',by simp [hr'],h⟩
   ·rintro (h | ⟨r',hr',h⟩)
    ·exact .inl (.inl h)
    ·rcases List.mem_cons.1 hr' with rfl | hr'
     ·exact .inl (.inr h)
     ·exact .inr ⟨r',hr',h⟩
theorem X6 (e:Eg) (a b:Str) (c:Bool):aI [D.str e.1,D.str e.2.1,D.bool e.2.2] [D.str a,D.str b,D.bool c]=decide (e=(a,b,c)):=by
 rw [Bool.eq_iff_iff,decide_eq_true_iff];obtain ⟨x,y,z⟩:=e;simp [aI,eq1]
theorem zN {E:List Eg} {p:Eg→Bool} {j:Nat} (h:j<E.length):(E.take (j+1)).any p=((E.take j).any p||p E[j]):=by
 rw [List.take_succ_eq_append_getElem h,List.any_append];simp
theorem Tryz.ZY (atoms:List Tm) (rules:List Gr) (hin:kY atoms.length rules) (hn:atoms.length≤64) (hr:rules.length≤128) (hf:∀ r∈rules,r.2.1.length+r.2.2.length≤16) :
  Pure Tryz.prog 82 [gD atoms rules] [.list ((iJ atoms rules []).map egD),.list ((nmS atoms).map D.str)]:=by
 refine Pure.of_wp hT (nt:=_) (c:=_) Tryz.func82 rfl rfl rfl rfl (by kernel_rfl) ?_;intro w0 ok0 β0;repeat (refine gw rfl ?_;conv=>whnf)
 refine WP.loop (α:=Nat) (fun i=>⟨[(1,.d (.ref [.list (atoms.map enT),.list (rules.map enG)] 0)),(4,.d (.list ((nmS (atoms.take i)).map D.str))),(5,.d (.int .i64 i))],[],[]⟩) (fun i=>i≤atoms.length) (fun i=>atoms.length-i) 0 [] [] ?_ ?_ ?_
 ·((conv=>whnf);repeat (first | exact ⟨⟩ | (refine ⟨by first | rfl | (simp;done) | (simp;omega),?_⟩;conv=>whnf)))
 ·exact Nat.zero_le _
 ·intro i hi;have hnl:=WQ (atoms.take i);rw [List.length_take] at hnl;repeat (refine gw rfl ?_;conv=>whnf)
  rw [List.length_map];(split<;>rename_i hb<;>(try rw [hb])<;>(conv=>whnf))
  ·have hlt:i<atoms.length:=(by simpa using hb);clear hb;(repeat (refine gw rfl ?_;conv=>whnf));refine ⟨by omega,_,kD hlt,rfl,?_⟩;(conv=>whnf);refine .inl ⟨_,Tryz.Xq (nmS (atoms.take i)) atoms[i].name (by omega),.inl rfl,?_⟩;rw [← WO hlt];(conv=>whnf);(repeat (refine gw rfl ?_;conv=>whnf));refine ⟨by omega,?_⟩;(conv=>whnf);refine ⟨i+1,[],[],?_,by omega,by omega⟩;((conv=>whnf);repeat (first | exact ⟨⟩ | (refine ⟨by first | rfl | (simp;done) | (simp;omega),?_⟩;conv=>whnf)))
  ·have:i=atoms.length:=(by simp at hb;omega);subst this;clear hb;rw [List.take_length];(repeat (refine gw rfl ?_;conv=>whnf));refine WP.loop (α:=Nat) (fun i=>⟨[(1,.d (.ref [.list (atoms.map enT),.list (rules.map enG)] 0)),(4,.d (.list ((nmS atoms).map D.str))),(6,.sl 6 3 0 (iJ atoms (rules.take i) []).length),(7,.d (.int .i64 i))],[((6,0),some (.arr 3 ((iJ atoms (rules.take i) []).map egD)))],[6]⟩) (fun i=>i≤rules.length∧(iJ atoms (rules.take i) []).length≤16*i) (fun i=>rules.length-i) 0 [(6,none)] [] ?_ ?_ ?_
   ·((conv=>whnf);repeat (first | exact ⟨⟩ | (refine ⟨by first | rfl | (simp;done) | (simp;omega),?_⟩;conv=>whnf)))
   ·exact ⟨Nat.zero_le _,Nat.zero_le _⟩
   ·rintro i ⟨hi,hEl⟩;(repeat (refine gw rfl ?_;conv=>whnf));rw [List.length_map];(split<;>rename_i hb<;>(try rw [hb])<;>(conv=>whnf))
    ·have hlt:i<rules.length:=(by simpa using hb);clear hb;have hm:=hin.head rules[i] (List.getElem_mem hlt);have hbd:=hin.body rules[i] (List.getElem_mem hlt);have hfi:=hf rules[i] (List.getElem_mem hlt);have hml:rules[i].1.toNat<atoms.length:=(by omega);generalize hE0:iJ atoms (rules.take i) []=E0 at hEl;(repeat (refine gw rfl ?_;conv=>whnf));refine ⟨by omega,_,Oh hlt,rfl,?_⟩;(conv=>whnf);repeat (refine gw rfl ?_;conv=>whnf)
     refine WP.loop (α:=Nat) (fun k=>⟨[(1,.d (.ref [.list (atoms.map enT),.list (rules.map enG)] 0)),(4,.d (.list ((nmS atoms).map D.str))),(6,.sl 6 3 0 (egR atoms rules[i] E0 k).length),(7,.d (.int .i64 i)),(8,.ptr 8 0),(9,.d (.int .i64 k))],
       [((8,0),some (.cell (.d (.int .i64 rules[i].1)))),((8,1),some (.cell (.d (.list (rules[i].2.1.map enI))))),((8,2),some (.cell (.d (.list (rules[i].2.2.map enI))))),((6,0),some (.arr 3 ((egR atoms rules[i] E0 k).map egD)))],[8,6]⟩)
      (fun k=>k≤szR rules[i]∧(egR atoms rules[i] E0 k).length≤E0.length+k) (fun k=>szR rules[i]-k) 0 [(8,some 8),(6,some 6)] [] ?_ ?_ ?_
     ·((conv=>whnf);repeat (first | exact ⟨⟩ | (refine ⟨by first | rfl | (simp;done) | (simp;omega),?_⟩;conv=>whnf)))
     ·exact ⟨Nat.zero_le _,Nat.le_refl _⟩
     ·rintro k ⟨hk,hEk⟩;have hsz:szR rules[i]=rules[i].2.1.length+rules[i].2.2.length:=rfl;(repeat (refine gw rfl ?_;conv=>whnf));rw [List.length_map,List.length_map];refine ⟨by omega,?_⟩;(conv=>whnf);(repeat (refine gw rfl ?_;conv=>whnf));(split<;>rename_i hb<;>(try rw [hb])<;>(conv=>whnf))
      ·have hkl:k<szR rules[i]:=(by have:=of_decide_eq_true hb;omega);clear hb;(conv=>whnf);(repeat (refine gw rfl ?_;conv=>whnf));refine ⟨by omega,_,wo hml,rfl,?_⟩;(conv=>whnf);refine ⟨rfl,?_⟩;(conv=>whnf);rw [List.length_map];(conv=>whnf);refine ⟨rfl,?_⟩;(conv=>whnf);(repeat (refine gw rfl ?_;conv=>whnf));cases hge:decide (((k:Nat):Int)≥((rules[i].2.1.length:Nat):Int)) with
       | true=>
         have hkp:rules[i].2.1.length≤k:=(by have:=of_decide_eq_true hge;omega);have hkn:k-rules[i].2.1.length<rules[i].2.2.length:=(by omega);have hyr:=hbd.2 rules[i].2.2[k-rules[i].2.1.length] (List.getElem_mem hkn);have hyl:rules[i].2.2[k-rules[i].2.1.length].toNat<atoms.length:=(by omega);(conv=>whnf);(repeat (refine gw rfl ?_;conv=>whnf));rw [List.length_map];refine ⟨by omega,?_⟩;rw [show ((k:Nat):Int)-((rules[i].2.1.length:Nat):Int)=((k-rules[i].2.1.length:Nat):Int) by omega];(conv=>whnf);refine ⟨by omega,_,aN hkn,rfl,?_⟩;(conv=>whnf);refine ⟨by omega,_,wo hyl,rfl,?_⟩;(conv=>whnf);refine ⟨rfl,?_⟩;(conv=>whnf);have heg:jD atoms rules[i] k=(atoms[rules[i].1.toNat].name,atoms[rules[i].2.2[k-rules[i].2.1.length].toNat].name,true):=by
          unfold jD nameAt;rw [show decide (k<rules[i].2.1.length)=false from decide_eq_false (by omega),List.getElem?_eq_getElem hml,List.getElem?_eq_getElem hkn,Option.getD_some,List.getElem?_eq_getElem hyl]
         generalize hE1:egR atoms rules[i] E0 k=E1 at hEk ⊢
         refine WP.weak (l':=⟨[(1,.d (.ref [.list (atoms.map enT),.list (rules.map enG)] 0)),(4,.d (.list ((nmS atoms).map D.str))),(6,.sl 6 3 0 E1.length),(7,.d (.int .i64 i)),(8,.ptr 8 0),(9,.d (.int .i64 k)),(10,.ptr 10 0)],
          [((8,0),some (.cell (.d (.int .i64 rules[i].1)))),((8,1),some (.cell (.d (.list (rules[i].2.1.map enI))))),((8,2),some (.cell (.d (.list (rules[i].2.2.map enI))))),((10,0),some (.cell (.d (.str atoms[rules[i].1.toNat].name)))),((10,1),some (.cell (.d (.str atoms[rules[i].2.2[k-rules[i].2.1.length].toNat].name)))),((10,2),some (.cell (.d (.bool true)))),((6,0),some (.arr 3 (E1.map egD)))],[8,10,6]⟩)
          [(8,some 8),(10,some 10),(6,some 6)] [] ?_ ?_
         ·((conv=>whnf);repeat (first | exact ⟨⟩ | (refine ⟨by first | rfl | (simp;done) | (simp;omega),?_⟩;conv=>whnf)))
         repeat (refine gw rfl ?_;conv=>whnf)
         refine WP.loop (α:=Nat) (fun j=>⟨[(1,.d (.ref [.list (atoms.map enT),.list (rules.map enG)] 0)),(4,.d (.list ((nmS atoms).map D.str))),(6,.sl 6 3 0 E1.length),(7,.d (.int .i64 i)),(8,.ptr 8 0),(9,.d (.int .i64 k)),(10,.ptr 10 0),(11,.d (.bool ((E1.take j).any fun x=>decide (x=jD atoms rules[i] k)))),(12,.d (.int .i64 j))],
          [((8,0),some (.cell (.d (.int .i64 rules[i].1)))),((8,1),some (.cell (.d (.list (rules[i].2.1.map enI))))),((8,2),some (.cell (.d (.list (rules[i].2.2.map enI))))),((10,0),some (.cell (.d (.str atoms[rules[i].1.toNat].name)))),((10,1),some (.cell (.d (.str atoms[rules[i].2.2[k-rules[i].2.1.length].toNat].name)))),((10,2),some (.cell (.d (.bool true)))),((6,0),some (.arr 3 (E1.map egD)))],[8,10,6]⟩)
          (fun j=>j≤E1.length) (fun j=>E1.length-j) 0 [(8,some 8),(10,some 10),(6,some 6)] [] ?_ ?_ ?_
         ·((conv=>whnf);repeat (first | exact ⟨⟩ | (refine ⟨by first | rfl | (simp;done) | (simp;omega),?_⟩;conv=>whnf)))
         ·exact Nat.zero_le _
         ·intro j hj;(repeat (refine gw rfl ?_;conv=>whnf));(split<;>rename_i hb<;>(try rw [hb])<;>(conv=>whnf))
          ·have hjl:j<E1.length:=(by simpa using hb);clear hb;(repeat (refine gw rfl ?_;conv=>whnf));cases hold:(E1.take j).any fun x=>decide (x=jD atoms rules[i] k) with
           | true=>
             (conv=>whnf);(repeat (refine gw rfl ?_;conv=>whnf));refine ⟨by omega,?_⟩;(conv=>whnf);refine ⟨j+1,[(8,some 8),(10,some 10),(6,some 6)],[],?_,by omega,by omega⟩;rw [zN hjl,hold,Bool.true_or];((conv=>whnf);repeat (first | exact ⟨⟩ | (refine ⟨by first | rfl | (simp;done) | (simp;omega),?_⟩;conv=>whnf)))
           | false=>
             (conv=>whnf);refine ⟨by omega,?_⟩;rw [Int.toNat_natCast];(conv=>whnf);refine ⟨_,by rw [Nat.zero_add,List.getElem?_map,List.getElem?_eq_getElem hjl];rfl,?_⟩;(conv=>whnf);rw [X6,← heg];(repeat (refine gw rfl ?_;conv=>whnf));refine ⟨by omega,?_⟩;(conv=>whnf);refine ⟨j+1,[(8,some 8),(10,some 10),(6,some 6)],[],?_,by omega,by omega⟩;rw [zN hjl,hold,Bool.false_or];((conv=>whnf);repeat (first | exact ⟨⟩ | (refine ⟨by first | rfl | (simp;done) | (simp;omega),?_⟩;conv=>whnf)))
          ·have:j=E1.length:=(by simp at hb;omega);subst this;clear hb;rw [List.take_length];have hsc:=lX atoms rules[i] E0 k;rw [hE1] at hsc;unfold dH at hsc;(repeat (refine gw rfl ?_;conv=>whnf));cases hold:E1.any fun x=>decide (x=jD atoms rules[i] k) with
           | true=>
             rw [hold] at hsc;have hsc:egR atoms rules[i] E0 (k+1)=E1:=hsc;(conv=>whnf);(repeat (refine gw rfl ?_;conv=>whnf));refine ⟨by omega,?_⟩;(conv=>whnf);refine ⟨k+1,[(8,some 8),(6,some 6)],[],?_,⟨by omega,by rw [hsc];omega⟩,by omega⟩;rw [hsc];((conv=>whnf);repeat (first | exact ⟨⟩ | (refine ⟨by first | rfl | (simp;done) | (simp;omega),?_⟩;conv=>whnf)))
           | false=>
             rw [hold] at hsc;have hsc:egR atoms rules[i] E0 (k+1)=E1++[jD atoms rules[i] k]:=hsc;(conv=>whnf);(repeat (refine gw rfl ?_;conv=>whnf));refine ⟨rfl,?_⟩;(conv=>whnf);refine ⟨E1.map egD,by rw [List.drop_zero];exact List.take_of_length_le (by simp),by simp,?_⟩;(conv=>whnf);refine ⟨_,rfl,Nat.le_refl _,?_⟩;(conv=>whnf);refine ⟨by show (_+1)*40≤_;rw [List.length_map];omega,?_⟩;(conv=>whnf);(repeat (refine gw rfl ?_;conv=>whnf));refine ⟨by omega,?_⟩;(conv=>whnf);refine ⟨k+1,[(8,some 8),(6,some 112)],[],?_,⟨by omega,by rw [hsc,List.length_append,List.length_singleton];omega⟩,by omega⟩;have e1:(E1.map egD).length+(List.take [D.agg [D.str atoms[rules[i].1.toNat].name,D.str atoms[rules[i].2.2[k-rules[i].2.1.length].toNat].name,D.bool true]].length (List.drop 0 [D.agg [D.str atoms[rules[i].1.toNat].name,D.str atoms[rules[i].2.2[k-rules[i].2.1.length].toNat].name,D.bool true]])).length=(E1++[jD atoms rules[i] k]).length:=(by simp);have e2:E1.map egD++List.take [D.agg [D.str atoms[rules[i].1.toNat].name,D.str atoms[rules[i].2.2[k-rules[i].2.1.length].toNat].name,D.bool true]].length (List.drop 0 [D.agg [D.str atoms[rules[i].1.toNat].name,D.str atoms[rules[i].2.2[k-rules[i].2.1.length].toNat].name,D.bool true]])=(E1++[jD atoms rules[i] k]).map egD:=(by rw [heg,List.map_append];rfl);rw [hsc,e1,e2];((conv=>whnf);repeat (first | exact ⟨⟩ | (refine ⟨by first | rfl | (simp;done) | (simp;omega),?_⟩;conv=>whnf)))
       | false=>
         have hkp:k<rules[i].2.1.length:=(by have:=of_decide_eq_false hge;omega);have hyr:=hbd.1 rules[i].2.1[k] (List.getElem_mem hkp);have hyl:rules[i].2.1[k].toNat<atoms.length:=(by omega);have hkn:=hkp;(conv=>whnf);(repeat (refine gw rfl ?_;conv=>whnf));refine ⟨by omega,_,aN hkn,rfl,?_⟩;(conv=>whnf);refine ⟨by omega,_,wo hyl,rfl,?_⟩;(conv=>whnf);refine ⟨rfl,?_⟩;(conv=>whnf);have heg:jD atoms rules[i] k=(atoms[rules[i].1.toNat].name,atoms[rules[i].2.1[k].toNat].name,false):=by
          unfold jD nameAt;rw [show decide (k<rules[i].2.1.length)=true from decide_eq_true (by omega),List.getElem?_eq_getElem hml,List.getElem?_eq_getElem hkn,Option.getD_some,List.getElem?_eq_getElem hyl]
         generalize hE1:egR atoms rules[i] E0 k=E1 at hEk ⊢
         refine WP.weak (l':=⟨[(1,.d (.ref [.list (atoms.map enT),.list (rules.map enG)] 0)),(4,.d (.list ((nmS atoms).map D.str))),(6,.sl 6 3 0 E1.length),(7,.d (.int .i64 i)),(8,.ptr 8 0),(9,.d (.int .i64 k)),(10,.ptr 10 0)],
          [((8,0),some (.cell (.d (.int .i64 rules[i].1)))),((8,1),some (.cell (.d (.list (rules[i].2.1.map enI))))),((8,2),some (.cell (.d (.list (rules[i].2.2.map enI))))),((10,0),some (.cell (.d (.str atoms[rules[i].1.toNat].name)))),((10,1),some (.cell (.d (.str atoms[rules[i].2.1[k].toNat].name)))),((10,2),some (.cell (.d (.bool false)))),((6,0),some (.arr 3 (E1.map egD)))],[8,10,6]⟩)
          [(8,some 8),(10,some 10),(6,some 6)] [] ?_ ?_
         ·((conv=>whnf);repeat (first | exact ⟨⟩ | (refine ⟨by first | rfl | (simp;done) | (simp;omega),?_⟩;conv=>whnf)))
         repeat (refine gw rfl ?_;conv=>whnf)
         refine WP.loop (α:=Nat) (fun j=>⟨[(1,.d (.ref [.list (atoms.map enT),.list (rules.map enG)] 0)),(4,.d (.list ((nmS atoms).map D.str))),(6,.sl 6 3 0 E1.length),(7,.d (.int .i64 i)),(8,.ptr 8 0),(9,.d (.int .i64 k)),(10,.ptr 10 0),(11,.d (.bool ((E1.take j).any fun x=>decide (x=jD atoms rules[i] k)))),(12,.d (.int .i64 j))],
          [((8,0),some (.cell (.d (.int .i64 rules[i].1)))),((8,1),some (.cell (.d (.list (rules[i].2.1.map enI))))),((8,2),some (.cell (.d (.list (rules[i].2.2.map enI))))),((10,0),some (.cell (.d (.str atoms[rules[i].1.toNat].name)))),((10,1),some (.cell (.d (.str atoms[rules[i].2.1[k].toNat].name)))),((10,2),some (.cell (.d (.bool false)))),((6,0),some (.arr 3 (E1.map egD)))],[8,10,6]⟩)
          (fun j=>j≤E1.length) (fun j=>E1.length-j) 0 [(8,some 8),(10,some 10),(6,some 6)] [] ?_ ?_ ?_
         ·((conv=>whnf);repeat (first | exact ⟨⟩ | (refine ⟨by first | rfl | (simp;done) | (simp;omega),?_⟩;conv=>whnf)))
         ·exact Nat.zero_le _
         ·intro j hj;(repeat (refine gw rfl ?_;conv=>whnf));(split<;>rename_i hb<;>(try rw [hb])<;>(conv=>whnf))
          ·have hjl:j<E1.length:=(by simpa using hb);clear hb;(repeat (refine gw rfl ?_;conv=>whnf));cases hold:(E1.take j).any fun x=>decide (x=jD atoms rules[i] k) with
           | true=>
             (conv=>whnf);(repeat (refine gw rfl ?_;conv=>whnf));refine ⟨by omega,?_⟩;(conv=>whnf);refine ⟨j+1,[(8,some 8),(10,some 10),(6,some 6)],[],?_,by omega,by omega⟩;rw [zN hjl,hold,Bool.true_or];((conv=>whnf);repeat (first | exact ⟨⟩ | (refine ⟨by first | rfl | (simp;done) | (simp;omega),?_⟩;conv=>whnf)))
           | false=>
             (conv=>whnf);refine ⟨by omega,?_⟩;rw [Int.toNat_natCast];(conv=>whnf);refine ⟨_,by rw [Nat.zero_add,List.getElem?_map,List.getElem?_eq_getElem hjl];rfl,?_⟩;(conv=>whnf);rw [X6,← heg];(repeat (refine gw rfl ?_;conv=>whnf));refine ⟨by omega,?_⟩;(conv=>whnf);refine ⟨j+1,[(8,some 8),(10,some 10),(6,some 6)],[],?_,by omega,by omega⟩;rw [zN hjl,hold,Bool.false_or];((conv=>whnf);repeat (first | exact ⟨⟩ | (refine ⟨by first | rfl | (simp;done) | (simp;omega),?_⟩;conv=>whnf)))
          ·have:j=E1.length:=(by simp at hb;omega);subst this;clear hb;rw [List.take_length];have hsc:=lX atoms rules[i] E0 k;rw [hE1] at hsc;unfold dH at hsc;(repeat (refine gw rfl ?_;conv=>whnf));cases hold:E1.any fun x=>decide (x=jD atoms rules[i] k) with
           | true=>
             rw [hold] at hsc;have hsc:egR atoms rules[i] E0 (k+1)=E1:=hsc;(conv=>whnf);(repeat (refine gw rfl ?_;conv=>whnf));refine ⟨by omega,?_⟩;(conv=>whnf);refine ⟨k+1,[(8,some 8),(6,some 6)],[],?_,⟨by omega,by rw [hsc];omega⟩,by omega⟩;rw [hsc];((conv=>whnf);repeat (first | exact ⟨⟩ | (refine ⟨by first | rfl | (simp;done) | (simp;omega),?_⟩;conv=>whnf)))
           | false=>
             rw [hold] at hsc;have hsc:egR atoms rules[i] E0 (k+1)=E1++[jD atoms rules[i] k]:=hsc;(conv=>whnf);(repeat (refine gw rfl ?_;conv=>whnf));refine ⟨rfl,?_⟩;(conv=>whnf);refine ⟨E1.map egD,by rw [List.drop_zero];exact List.take_of_length_le (by simp),by simp,?_⟩;(conv=>whnf);refine ⟨_,rfl,Nat.le_refl _,?_⟩;(conv=>whnf);refine ⟨by show (_+1)*40≤_;rw [List.length_map];omega,?_⟩;(conv=>whnf);(repeat (refine gw rfl ?_;conv=>whnf));refine ⟨by omega,?_⟩;(conv=>whnf);refine ⟨k+1,[(8,some 8),(6,some 112)],[],?_,⟨by omega,by rw [hsc,List.length_append,List.length_singleton];omega⟩,by omega⟩;have e1:(E1.map egD).length+(List.take [D.agg [D.str atoms[rules[i].1.toNat].name,D.str atoms[rules[i].2.1[k].toNat].name,D.bool false]].length (List.drop 0 [D.agg [D.str atoms[rules[i].1.toNat].name,D.str atoms[rules[i].2.1[k].toNat].name,D.bool false]])).length=(E1++[jD atoms rules[i] k]).length:=(by simp);have e2:E1.map egD++List.take [D.agg [D.str atoms[rules[i].1.toNat].name,D.str atoms[rules[i].2.1[k].toNat].name,D.bool false]].length (List.drop 0 [D.agg [D.str atoms[rules[i].1.toNat].name,D.str atoms[rules[i].2.1[k].toNat].name,D.bool false]])=(E1++[jD atoms rules[i] k]).map egD:=(by rw [heg,List.map_append];rfl);rw [hsc,e1,e2];((conv=>whnf);repeat (first | exact ⟨⟩ | (refine ⟨by first | rfl | (simp;done) | (simp;omega),?_⟩;conv=>whnf)))
      ·have hke:k=szR rules[i]:=(by have:=of_decide_eq_false hb;omega);subst hke;clear hb;rw [hE0.symm,← JC hlt] at hEk ⊢;(conv=>whnf);(repeat (refine gw rfl ?_;conv=>whnf));refine ⟨by omega,?_⟩;(conv=>whnf);refine ⟨i+1,[(6,some 6)],[],?_,⟨by omega,by rw [hE0] at hEk;omega⟩,by omega⟩;((conv=>whnf);repeat (first | exact ⟨⟩ | (refine ⟨by first | rfl | (simp;done) | (simp;omega),?_⟩;conv=>whnf)))
    ·have:i=rules.length:=(by simp at hb;omega);subst this;clear hb;rw [List.take_length];(repeat (refine gw rfl ?_;conv=>whnf));refine ⟨(iJ atoms rules []).map egD,by rw [List.drop_zero];exact List.take_of_length_le (by simp),by simp,?_⟩;conv=>whnf
theorem qA {atoms:List Tm} {i:Int} (h:i.toNat<atoms.length):nameAt atoms i∈nmS atoms:=by
 unfold nameAt;rw [List.getElem?_eq_getElem h];exact Dk.2 ⟨_,List.getElem_mem h,rfl⟩
theorem Ye {atoms:List Tm} {r:Gr} {j:Nat} (hh:0≤r.1∧r.1<atoms.length) (hp:∀ x∈r.2.1,0≤x∧x<(atoms.length:Int)) (hq:∀ x∈r.2.2,0≤x∧x<(atoms.length:Int)) (hj:j<szR r):(jD atoms r j).1∈nmS atoms∧(jD atoms r j).2.1∈nmS atoms:=by
 unfold jD szR at *;by_cases h:j<r.2.1.length
 ·rw [decide_eq_true h,List.getElem?_eq_getElem h,Option.getD_some];have:=hp r.2.1[j] (List.getElem_mem h);exact ⟨qA (by omega),qA (by omega)⟩
 ·have h2:j-r.2.1.length<r.2.2.length:=by omega
  rw [decide_eq_false h,List.getElem?_eq_getElem h2,Option.getD_some];have:=hq r.2.2[j-r.2.1.length] (List.getElem_mem h2);exact ⟨qA (by omega),qA (by omega)⟩
theorem Ya {atoms:List Tm} {rules:List Gr} (hin:kY atoms.length rules):∀ e∈iJ atoms rules [],e.1∈nmS atoms∧e.2.1∈nmS atoms:=fun e he=>by
 rcases TW.1 he with h | ⟨r,hr,j,hj,rfl⟩
 ·cases h
 ·exact Ye (hin.head r hr) (hin.body r hr).1 (hin.body r hr).2 hj
theorem Yb (atoms:List Tm) (r:Gr) (E:List Eg):∀ k,(egR atoms r E k).length≤E.length+k
 | 0=>by simp [egR]
 | k+1=>by
   rw [lX];have:=Yb atoms r E k;unfold dH;split
   ·omega
   ·rw [List.length_append,List.length_singleton];omega
theorem X9 {atoms:List Tm}:∀ {rules:List Gr} {E:List Eg},(∀ r∈rules,szR r≤16)→(iJ atoms rules E).length≤E.length+16*rules.length
 | [],E,_=>by simp [iJ]
 | r::l,E,h=>by
   have h1:=X9 (rules:=l) (E:=egR atoms r E (szR r)) (atoms:=atoms) fun r' hr'=>h r' (by simp [hr'])
   have h2:=Yb atoms r E (szR r);have h3:=h r (by simp);show (iJ atoms l (egR atoms r E (szR r))).length≤_;rw [List.length_cons];omega
def strD (atoms:List Tm) (names:List Str) (E:List Eg):List D:=match jy names E with
 | some lv=>[.list (atoms.map fun t => .int .i64 (ofL t.name (names.map fun n=>(n,((lv n:Nat):Int))))),.int .i64 0]
 | none=>[.list [],.int .i64 10]
theorem Tryz.VP (atoms:List Tm) (rules:List Gr) (hok:∀ x∈atoms,okT x) (hv:bH atoms rules=true) (hn:atoms.length≤64) (hr:rules.length≤128) (hf:∀ r∈rules,r.2.1.length+r.2.2.length≤16) :
  Pure Tryz.prog 37 [gD atoms rules] (strD atoms (nmS atoms) (iJ atoms rules [])):=by
 have hfit:Lm rules:=fun r h=>by have:=hf r h;omega
 have hin:=kZ hv;have hnl:=WQ atoms;have hel:=X9 (atoms:=atoms) (E:=[]) hf;have hle:=Tryz.Zq (nmS atoms) (iJ atoms rules []) (Ya hin) (by omega) (by simp only [List.length_nil] at hel;omega);unfold strD;refine Pure.of_wp hT (nt:=_) (c:=_) Tryz.func37 rfl rfl rfl rfl (by kernel_rfl) ?_;intro w0 ok0 β0;repeat (refine gw rfl ?_;conv=>whnf)
 refine .inl ⟨_,Tryz.J3 atoms rules hok hfit,.inl rfl,?_⟩;rw [hv];conv=>whnf
 repeat (refine gw rfl ?_;conv=>whnf)
 refine .inl ⟨_,Tryz.ZY atoms rules hin hn hr hf,.inl rfl,?_⟩;conv=>whnf
 repeat (refine gw rfl ?_;conv=>whnf)
 cases hlv:jy (nmS atoms) (iJ atoms rules []) with
 | none=>
   rw [hlv] at hle;dsimp only at hle;refine .inl ⟨_,hle,.inl rfl,?_⟩;(conv=>whnf);repeat (refine gw rfl ?_;conv=>whnf)
 | some lv=>
   rw [hlv] at hle;dsimp only at hle;refine .inl ⟨_,hle,.inl rfl,?_⟩;(conv=>whnf);(repeat (refine gw rfl ?_;conv=>whnf));refine WP.loop (α:=Nat) (fun i=>⟨[(1,.d (.ref [.list (atoms.map enT),.list (rules.map enG)] 0)),(6,.d (.list (lvD (nmS atoms) lv))),(8,.sl 8 1 0 i),(9,.d (.int .i64 i))],[((8,0),some (.arr 1 ((atoms.take i).map fun t => .int .i64 (ofL t.name ((nmS atoms).map fun n=>(n,((lv n:Nat):Int)))))))],[8]⟩)
    (fun i=>i≤atoms.length) (fun i=>atoms.length-i) 0 [(8,none)] [] ?_ ?_ ?_
   ·((conv=>whnf);repeat (first | exact ⟨⟩ | (refine ⟨by first | rfl | (simp;done) | (simp;omega),?_⟩;conv=>whnf)))
   ·exact Nat.zero_le _
   ·intro i hi;(repeat (refine gw rfl ?_;conv=>whnf));rw [List.length_map];(split<;>rename_i hb<;>(try rw [hb])<;>(conv=>whnf))
    ·have hlt:i<atoms.length:=(by simpa using hb);clear hb;have hof:=Tryz.aec ((nmS atoms).map fun n=>(n,((lv n:Nat):Int))) atoms[i].name (by rw [List.length_map];omega);rw [← KQ] at hof;(repeat (refine gw rfl ?_;conv=>whnf));refine ⟨by omega,_,kD hlt,rfl,?_⟩;(conv=>whnf);refine .inl ⟨_,hof,.inl rfl,?_⟩;(conv=>whnf);refine ⟨rfl,?_⟩;(conv=>whnf);refine ⟨(atoms.take i).map fun t => .int .i64 (ofL t.name ((nmS atoms).map fun n=>(n,((lv n:Nat):Int)))),by rw [List.drop_zero];exact List.take_of_length_le (by rw [List.length_map,List.length_take];omega),by rw [List.length_map,List.length_take];omega,?_⟩;(conv=>whnf);refine ⟨_,rfl,Nat.le_refl _,?_⟩;(conv=>whnf);refine ⟨by show (_+1)*8≤_;rw [List.length_map,List.length_take];omega,?_⟩;(conv=>whnf);(repeat (refine gw rfl ?_;conv=>whnf));refine ⟨by omega,?_⟩;(conv=>whnf);refine ⟨i+1,[(8,some 43)],[],?_,by omega,by omega⟩;have e1:((atoms.take i).map fun t=>D.int .i64 (ofL t.name ((nmS atoms).map fun n=>(n,((lv n:Nat):Int))))).length+(List.take [D.int .i64 (ofL atoms[i].name ((nmS atoms).map fun n=>(n,((lv n:Nat):Int))))].length (List.drop 0 [D.int .i64 (ofL atoms[i].name ((nmS atoms).map fun n=>(n,((lv n:Nat):Int))))])).length=i+1:=(by simp only [List.length_map,List.length_take,List.drop_zero,List.length_singleton];omega);have e2:((atoms.take i).map fun t=>D.int .i64 (ofL t.name ((nmS atoms).map fun n=>(n,((lv n:Nat):Int)))))++List.take [D.int .i64 (ofL atoms[i].name ((nmS atoms).map fun n=>(n,((lv n:Nat):Int))))].length (List.drop 0 [D.int .i64 (ofL atoms[i].name ((nmS atoms).map fun n=>(n,((lv n:Nat):Int))))])=(atoms.take (i+1)).map fun t=>D.int .i64 (ofL t.name ((nmS atoms).map fun n=>(n,((lv n:Nat):Int)))):=by
      rw [List.take_succ_eq_append_getElem hlt,List.map_append];rfl
     rw [e1,e2];((conv=>whnf);repeat (first | exact ⟨⟩ | (refine ⟨by first | rfl | (simp;done) | (simp;omega),?_⟩;conv=>whnf)))
    ·have:i=atoms.length:=(by simp at hb;omega);subst this;clear hb;rw [List.take_length];(repeat (refine gw rfl ?_;conv=>whnf));refine ⟨_,rfl,by simp,?_⟩;(conv=>whnf);rw [List.drop_zero,List.take_of_length_le (by simp)]
end Go.Proofs.YtdonenoiehdahaaGreat
namespace Go.Proofs.YtdonenoiehdahaaGreat
open Go Go.Abs Go.Own Go.RowKit Go.Keys Go.Sort
attribute [local irreducible] WP
theorem Wp {ok':Nat→Prop} {w':World} {base t sz:Nat} {v:Value} {us:List Value} {xs:List D} (hsz:0<sz) (hw:∀ x∈xs,x.cells.length=sz) (hrow:w'.ownsRow base t sz v xs.length us)
  (hu:∀ (i:Nat) x (j:Nat) c,xs[i]?=some x→x.cells[j]?=some c→∃ u,us[i*sz+j]?=some u∧RdD ok' w' u c∧u.oneCell'=true∧c.one=true) (hb:∀ b,base≤b→b<w'.heap.size→ok' b):RdD ok' w' v (.list xs):=by
 obtain ⟨_,⟨rfl,h2⟩ | ⟨g,cap,cur,rfl,h1,h2,h3,h4,h5,h6⟩⟩:=hrow
 ·obtain rfl:xs=[]:=List.length_eq_zero_iff.1 h2;exact .kS _
 ·have key:∀ (i:Nat) x (j:Nat) c,xs[i]?=some x→x.cells[j]?=some c→∃ u,cur[i*sz+j]?=some u∧RdD ok' w' u c∧u.oneCell'=true∧c.one=true:=fun i x j c hx hc=>by
   obtain ⟨u,p1,p2⟩:=hu i x j c hx hc;refine ⟨u,?_,p2⟩;have hi:i<xs.length:=(List.getElem?_eq_some_iff.1 hx).1;have hj:j<sz:=(by rw [← hw x (List.mem_of_getElem? hx)];exact (List.getElem?_eq_some_iff.1 hc).1);have hlt:i*sz+j<xs.length*sz:=by
    have:(i+1)*sz≤xs.length*sz:=Nat.mul_le_mul_right sz hi;rw [Nat.add_mul,Nat.one_mul] at this;omega
   have h7:(cur.toList.take (xs.length*sz))[i*sz+j]?=some u:=(by rw [h6];exact p1);rw [List.getElem?_take_of_lt hlt] at h7
   simpa using h7
  refine .lst ⟨g,0,none⟩ cap sz xs (fun i j=>(cur[i*sz+j]?).getD undef) (hb g h1 (Array.getElem?_eq_some_iff.1 h2).1) rfl h3 h4 hsz (fun i x hx=>hw x (List.mem_of_getElem? hx)) (fun i x j c hx hc=>?_) (fun i x j c hx hc=>?_)
  ·obtain ⟨u,p1,p2,p3,p4⟩:=key i x j c hx hc;rw [Go.cell_of_row w' g _ cur _ (0,0) h2,Nat.zero_add,p1];exact ⟨rfl,p3,p4⟩
  ·obtain ⟨u,p1,p2,p3,p4⟩:=key i x j c hx hc;rw [p1];exact p2
theorem BN {wr:Nat→Nat→Prop} {w w':World} (hb:Below w.heap.size w w'):Abs.Frame wr w w':=
 ⟨hb.os,hb.tape,hb.output,hb.size,fun b hb' _=>hb.block b hb',fun b c T fz hbc=>⟨c,(hb.block b (Array.getElem?_eq_some_iff.1 hbc).1).trans hbc,rfl,fun _ _=>rfl⟩⟩
theorem Tryz.aeg (es:List (D×D)):jg Tryz.prog 160 [0] [.map 0] [((0,0),.map es)] [1] [.func (.func 181) [] [.ptr 1 0]] [((0,0),.map es),((1,0),.cell (.map 0))]:=by
 refine jg.of_wp hT (nt:=_) (c:=_) Tryz.func160 rfl rfl rfl rfl (by kernel_rfl) rfl rfl ?_;intro w0 ok0 wr β0;refine W1 ?_;refine W2 hT hM [1] ?_;conv=>whnf
 repeat (refine gw rfl ?_;conv=>whnf)
 refine ⟨[(0,some 0),(1,some 1)],[],?_,rfl⟩;((conv=>whnf);repeat (first | exact ⟨⟩ | (refine ⟨by first | rfl | (simp;done) | (simp;omega),?_⟩;conv=>whnf)))
def oQ (ks:List Str):List Str:=ks.mergeSort fun x y=>decide (x≤y)
theorem lM (ks:List Str):(oQ ks).Perm ks:=List.mergeSort_perm _ _
theorem Kq (ks:List Str):(oQ ks).Pairwise (·≤·):=by
 have:=List.pairwise_mergeSort (le:=fun x y:Str=>decide (x≤y)) (fun a b c h1 h2=>by simp only [decide_eq_true_eq] at *;exact List.le_trans h1 h2) (fun a b=>by
  simp only [Bool.or_eq_true,decide_eq_true_eq];exact List.le_total a b) ks
 exact this.imp fun h=>by simpa using h
theorem Tryz.YX (es:List (D×D)) (ks:List Str) (hk:es.map (·.1)=ks.map D.str) (hl:ks.length≤1000000) :
  jg Tryz.prog 159 [0,1] [.func (.func 181) [] [.ptr 1 0]] [((0,0),.map es),((1,0),.cell (.map 0))] [] [.d (.list ((oQ ks).map D.str))] []:=by
 refine ⟨⟨_,Tryz.func159,by kernel_rfl,rfl⟩,fun k r h=>(by cases h),fun β ok w vs hgl hokb hsz has hpre hsep hinj=>?_⟩;obtain ⟨v0,rfl⟩:∃ v0,vs=#[v0]:=by
  have h3:vs.size=1:=hsz;exact ⟨vs[0],by apply Array.ext (by simpa using h3);intro i h1 h2;match i,h2 with | 0,_=>rfl⟩
 have h0:=has 0 v0 _ rfl rfl;obtain ⟨_,_,r,ents,clock,e1,e2,e3,e4,e5⟩:=hpre (0,0) (.map es) (by simp);obtain ⟨_,b,c,T,u,g1,g2,g3,g4,g5⟩:=hpre (1,0) (.cell (.map 0)) (by simp);cases h0 with
 | func fn fs cs f cc q1 q2 q3 q4=>
   obtain rfl:fs=#[]:=Array.eq_empty_of_size_eq_zero q1;obtain ⟨p,rfl⟩:∃ p,cs=#[p]:=by
    have h3:cs.size=1:=q2;exact ⟨cs[0],by apply Array.ext (by simpa using h3);intro i h1 h2;match i,h2 with | 0,_=>rfl⟩
   have hp:=q4 0 p _ rfl rfl;cases hp with
   | ptr _ _ b' p1 p2=>
     have g1:β 1 = .pointer (some ⟨b,0,none⟩):=g1;rw [p2] at g1;obtain rfl:b'=b:=by simpa using g1
     cases g5 with
     | map _ r' s1 s2=>
       have e1:β 0 = .map (some r):=e1;rw [s2] at e1;obtain rfl:r'=r:=by simpa using e1
       have hm:w.cell? ⟨b',0,none⟩=some (.map (some r')):=(by rw [Go.cell_of_row w b' 0 c T (0,0) g2];exact g3);have hn:ents.size=ks.length:=(by rw [e3];have:=congrArg List.length hk;simpa using this);have hkv:∀ i:Fin ents.size,ents[i].key=encStr (ks[i.1]'(by rw [← hn];exact i.2))∧(ks[i.1]'(by rw [← hn];exact i.2)).length≤maxLen:=fun i=>by
        have hik:i.1<ks.length:=(by rw [← hn];exact i.2);have hie:i.1<es.length:=(by rw [← e3];exact i.2);have h1:=(e4 i.1 ents[i] es[i.1] (by simp) (by simp [hie])).1;have h2:es[i.1].1 = .str ks[i.1]:=by
         have:(es.map (·.1))[i.1]?=(ks.map D.str)[i.1]?:=by rw [hk]
         simpa [List.getElem?_map,List.getElem?_eq_getElem hik,List.getElem?_eq_getElem hie] using this
        rw [h2] at h1;revert h1;generalize ents[i].key=kk;intro h1;cases h1 with
        | str s hs=>exact ⟨rfl,hs⟩
       have hL:((List.finRange ents.size).map fun i=>ks[i.1]'(by rw [← hn];exact i.2)).Perm (oQ ks):=by
        have:((List.finRange ents.size).map fun i=>ks[i.1]'(by rw [← hn];exact i.2))=ks:=by
         apply List.ext_getElem (by simp [hn]);intro i h1 h2;simp
        rw [this];exact (lM ks).symm
       have hlen:∀ s∈oQ ks,s.length≤maxLen:=fun s hs=>by
        obtain ⟨i,hi,rfl⟩:=List.mem_iff_getElem.1 ((lM ks).mem_iff.1 hs);exact (hkv ⟨i,by rw [hn];exact hi⟩).2
       have hcon:=Tryz.DZ ⟨b',0,none⟩ r' ents clock _ (fun i=>(hkv i).1) e5 w hm e2 (oQ ks) hL (Kq ks) (by rw [hn];exact Nat.le_trans hl (by decide)) (by rw [hn];omega);refine hcon.mono ?_;rintro e w' ⟨v,rfl,hrow,hB,_⟩
       refine ⟨v,β,fun b=>ok b∨(w.heap.size≤b∧b<w'.heap.size),rfl,fun _ _=>rfl,.d _ _ ?_,fun k r h=>(by cases h),fun k r b h=>(by cases h),fun k k' r r' b h=>(by cases h),
        fun b hb=>hb.elim (fun h=>Nat.lt_of_lt_of_le (hokb b h) hB.size) (fun h=>h.2),fun b h => .inl h,fun b hb=>hb.elim .inl (fun h => .inr (.inl h.1)),BN hB⟩
       have hlm:(oQ ks).length=((oQ ks).map D.str).length:=(by simp);rw [hlm] at hrow;refine Wp (by decide) (fun x hx=>?_) hrow (fun i x j cc hx hc=>?_) (fun b h1 h2 => .inr ⟨h1,h2⟩)
       ·obtain ⟨s,_,rfl⟩:=List.mem_map.1 hx;rfl
       ·simp only [List.getElem?_map,Option.map_eq_some_iff] at hx;obtain ⟨s,hs,rfl⟩:=hx;cases j with
        | succ j=>simp [D.cells] at hc
        | zero=>
          obtain rfl:D.str s=cc:=by simpa [D.cells] using hc
          exact ⟨encStr s,by simp [hs],.str _ (hlen s (List.mem_of_getElem? hs)),rfl,rfl⟩
theorem Tryz.ascending (es:List (D×D)) (ks:List Str) (hk:es.map (·.1)=ks.map D.str) (hl:ks.length≤1000000) :
  jg Tryz.prog 151 [0] [.map 0] [((0,0),.map es)] [] [.d (.list ((oQ ks).map D.str))] []:=by
 refine jg.of_wp hT (nt:=_) (c:=_) Tryz.func151 rfl rfl rfl rfl (by kernel_rfl) rfl rfl ?_;intro w0 ok0 wr β0;repeat (refine gw rfl ?_;conv=>whnf)
 refine .inr ⟨_,_,_,_,_,_,Tryz.aeg es,[(0,0),(1,4)],[4],rfl,rfl,?_⟩;conv=>whnf
 refine ⟨rfl,?_⟩;conv=>whnf
 refine .inr ⟨_,_,_,_,_,_,Tryz.YX es ks hk hl,[(0,0),(1,4)],[],rfl,rfl,?_⟩;conv=>whnf
 refine ⟨rfl,rfl,?_⟩;conv=>whnf
 repeat (refine gw rfl ?_;conv=>whnf)
 refine ⟨[(0,some 0)],[],?_,rfl⟩;((conv=>whnf);repeat (first | exact ⟨⟩ | (refine ⟨by first | rfl | (simp;done) | (simp;omega),?_⟩;conv=>whnf)))
def lkS (es:List (Str×D)) (s:Str):Option D:=match es with | []=>none | e::es=>match decide (s=e.1) with | true=>some e.2 | false=>lkS es s
def ptS (es:List (Str×D)) (s:Str) (v:D):List (Str×D):=match es with | []=>[(s,v)] | e::es=>match decide (s=e.1) with | true=>(s,v)::es | false=>e::ptS es s v
def mpS (es:List (Str×D)):List (D×D):=es.map fun e=>(.str e.1,e.2)
theorem QV (a b:Str):aI (D.str a).cells (D.str b).cells=decide (a=b):=by
 rw [Bool.eq_iff_iff,decide_eq_true_iff];simp [D.cells,aI,eq1]
theorem E5 (s:Str):∀ es:List (Str×D),Abs.look (mpS es) (.str s)=lkS es s
 | []=>rfl
 | e::es=>by
   show (match aI (D.str s).cells (D.str e.1).cells with | true=>some e.2 | false=>Abs.look (mpS es) (.str s))=_;rw [QV,E5 s es];rfl
theorem Df (s:Str) (v:D):∀ es:List (Str×D),vK (mpS es) (.str s) v=mpS (ptS es s v)
 | []=>rfl
 | e::es=>by
   show (match aI (D.str s).cells (D.str e.1).cells with | true=>(D.str s,v)::mpS es | false=>(D.str e.1,e.2)::vK (mpS es) (.str s) v)=_;rw [QV,Df s v es];show _=mpS (match decide (s=e.1) with | true=>(s,v)::es | false=>e::ptS es s v);cases decide (s=e.1)<;>rfl
theorem Uc (s:Str):∀ es:List (Str×D),(∀ e∈es,e.1≠s)→Ik (mpS es) (.str s)=mpS es
 | [],_=>rfl
 | e::es,h=>by
   show (match aI (D.str s).cells (D.str e.1).cells with | true=>mpS es | false=>(D.str e.1,e.2)::Ik (mpS es) (.str s))=_;rw [QV,decide_eq_false (fun e'=>h e (by simp) e'.symm),Uc s es fun e he=>h e (by simp [he])];rfl
theorem Du {te:TE} (h:te.ks=[.s]) (hk:te.k.isAgg=false) (es:List (Str×D)):∀ e∈mpS es,aY te e.1=true:=fun e he=>by
 obtain ⟨x,_,rfl⟩:=List.mem_map.1 he;unfold aY;rw [h];simp [D.cells,eX,iI,D.one,hk]
theorem WC (es:List (Str×D)) (s:Str) (v:D):(ptS es s v).map (·.1)=es.map (·.1)∨(ptS es s v).map (·.1)=es.map (·.1)++[s]:=by
 induction es with
 | nil=>right;rfl
 | cons e es ih=>
   unfold ptS;by_cases h:s=e.1
   ·rw [decide_eq_true h];left;simp [h]
   ·rw [decide_eq_false h];rcases ih with ih | ih
    ·left;simp [ih]
    ·right;simp [ih]
theorem SH {es:List (Str×D)} {s:Str} {v:D} {x:Str}:x∈(ptS es s v).map (·.1)↔x∈es.map (·.1)∨x=s:=by
 induction es with
 | nil=>simp [ptS]
 | cons e es ih=>
   unfold ptS;by_cases h:s=e.1
   ·rw [decide_eq_true h];simp only [List.map_cons,List.mem_cons];rw [h];constructor
    ·rintro (h | h)
     ·exact .inl (.inl h)
     ·exact .inl (.inr h)
    ·rintro ((h | h) | h)
     ·exact .inl h
     ·exact .inr h
     ·exact .inl h
   ·rw [decide_eq_false h];simp only [List.map_cons,List.mem_cons,ih,or_assoc]
theorem SQ (es:List (Str×D)) (s:Str) (v:D):(ptS es s v).length≤es.length+1:=by
 rcases WC es s v with h | h
 ·have:=congrArg List.length h;simp at this;omega
 ·have:=congrArg List.length h;simp at this;omega
end Go.Proofs.YtdonenoiehdahaaGreat
namespace Go.Proofs.YtdonenoiehdahaaGreat
open Go Go.Abs Go.Own
attribute [local irreducible] WP
def bdD (e:Eg):D := .agg [.bool e.2.2,.str e.2.1,.list []]
def enR (e:Eg):D := .agg [.str e.1,.list [],.list [bdD e]]
theorem aej {l:List Eg} {i:Nat} (h:i<l.length):(l.map enR)[((i:Int)).toNat]?=some (.agg [.str l[i].1,.list [],.list [bdD l[i]]]):=aN h
def ptB (m:List (Str×D)) (s:Str):List (Str×D):=ptS m s (.bool true)
def vI (E:List Eg):List (Str×D):=E.foldl (fun m e=>ptB (ptB m e.1) e.2.1) []
theorem UQ {E:List Eg} {i:Nat} (h:i<E.length):vI (E.take (i+1))=ptB (ptB (vI (E.take i)) E[i].1) E[i].2.1:=by
 unfold vI;rw [List.take_succ_eq_append_getElem h,List.foldl_append];rfl
def vZ (m:List (Str×D)):List Str:=m.map (·.1)
theorem ET {E:List Eg} {x:Str}:x∈vZ (vI E)↔∃ e∈E,x=e.1∨x=e.2.1:=by
 have key:∀ (E:List Eg) (m:List (Str×D)),x∈vZ (E.foldl (fun m e=>ptB (ptB m e.1) e.2.1) m)↔x∈vZ m∨∃ e∈E,x=e.1∨x=e.2.1:=fun E=>by
  induction E with
  | nil=>intro m;simp
  | cons e E ih=>
    intro m;rw [List.foldl_cons,ih];show x∈(ptS (ptS m e.1 _) e.2.1 _).map (·.1)∨_↔_;rw [SH,SH];constructor
    ·rintro (((h | h) | h) | ⟨e',he,h⟩)
     ·exact .inl h
     ·exact .inr ⟨e,by simp,.inl h⟩
     ·exact .inr ⟨e,by simp,.inr h⟩
     ·exact .inr ⟨e',by simp [he],h⟩
    ·rintro (h | ⟨e',he,h⟩)
     ·exact .inl (.inl (.inl h))
     ·rcases List.mem_cons.1 he with rfl | he
      ·rcases h with h | h
       ·exact .inl (.inl (.inr h))
       ·exact .inl (.inr h)
      ·exact .inr ⟨e',he,h⟩
 have:=key E []
 simpa [vI,vZ] using this
theorem NY (E:List Eg):(vI E).length≤2*E.length:=by
 have key:∀ (E:List Eg) (m:List (Str×D)),(E.foldl (fun m e=>ptB (ptB m e.1) e.2.1) m).length≤m.length+2*E.length:=fun E=>by
  induction E with
  | nil=>intro m;simp
  | cons e E ih=>
    intro m;rw [List.foldl_cons];have h1:=ih (ptB (ptB m e.1) e.2.1);have h2:=SQ m e.1 (.bool true);have h3:=SQ (ptB m e.1) e.2.1 (.bool true);unfold ptB at *;simp only [List.length_cons] at *;omega
 simpa [vI] using key E []
def dist:Str:=[100,105,115,116,105,110,99,116]
def qX (E:List Eg):List Str:=oQ (vZ (vI E))
def bdM (m:List (Str×D)) (e:Eg):Nat→List (Str×D)
 | 0=>m
 | _+1=>ptB m e.2.1
theorem Tryz.relations (E:List Eg) (hd:∀ e∈E,e.1≠dist∧e.2.1≠dist) (hE:E.length≤10000) :
  Pure Tryz.prog 136 [.list (E.map enR)] [.list ((qX E).map D.str)]:=by
 refine Pure.of_wp hT (nt:=_) (c:=_) Tryz.func136 rfl rfl rfl rfl (by kernel_rfl) ?_;intro w0 ok0 β0;repeat (refine gw rfl ?_;conv=>whnf)
 refine WP.loop (α:=Nat) (fun i=>⟨[(0,.d (.list (E.map enR))),(3,.map 8),(9,.d (.list (E.map enR))),(10,.d (.int .i64 E.length)),(11,.d (.int .i64 i))],[((8,0),some (.map (mpS (vI (E.take i)))))],[8]⟩)
  (fun i=>i≤E.length) (fun i=>E.length-i) 0 [(8,some 8)] [] ?_ ?_ ?_
 ·rw [List.length_map];((conv=>whnf);repeat (first | exact ⟨⟩ | (refine ⟨by first | rfl | (simp;done) | (simp;omega),?_⟩;conv=>whnf)))
 ·exact Nat.zero_le _
 ·intro i hi;repeat (refine gw rfl ?_;conv=>whnf)
  (split<;>rename_i hb<;>(try rw [hb])<;>(conv=>whnf))
  ·have hlt:i<E.length:=(by simpa using hb);clear hb;(repeat (refine gw rfl ?_;conv=>whnf));refine ⟨by omega,_,aej hlt,rfl,?_⟩;(conv=>whnf);(repeat (refine gw rfl ?_;conv=>whnf));refine ⟨Du rfl rfl _,?_⟩;rw [Df];(conv=>whnf);(repeat (refine gw rfl ?_;conv=>whnf));refine WP.loop (α:=Nat) (fun k=>⟨[(0,.d (.list (E.map enR))),(3,.map 8),(9,.d (.list (E.map enR))),(10,.d (.int .i64 E.length)),(11,.d (.int .i64 i)),(20,.d (.list [bdD E[i]])),(21,.d (.int .i64 1)),(22,.d (.int .i64 k))],[((8,0),some (.map (mpS (bdM (ptB (vI (E.take i)) E[i].1) E[i] k))))],[8]⟩)
    (fun k=>k≤1) (fun k=>1-k) 0 [(8,some 8)] [] ?_ ?_ ?_
   ·((conv=>whnf);repeat (first | exact ⟨⟩ | (refine ⟨by first | rfl | (simp;done) | (simp;omega),?_⟩;conv=>whnf)))
   ·exact Nat.zero_le _
   ·intro k hk;(repeat (refine gw rfl ?_;conv=>whnf));(split<;>rename_i hb<;>(try rw [hb])<;>(conv=>whnf))
    ·have hk0:k=0:=by have:(k:Int)<1:=by simpa using hb
                      omega
     subst hk0;clear hb;(repeat (refine gw rfl ?_;conv=>whnf));refine ⟨by omega,_,rfl,rfl,?_⟩;(conv=>whnf);(repeat (refine gw rfl ?_;conv=>whnf));refine ⟨Du rfl rfl _,?_⟩;rw [Df];(conv=>whnf);(repeat (refine gw rfl ?_;conv=>whnf));refine ⟨by omega,?_⟩;(conv=>whnf);refine ⟨1,[(8,some 8)],[],?_,by omega,by omega⟩;((conv=>whnf);repeat (first | exact ⟨⟩ | (refine ⟨by first | rfl | (simp;done) | (simp;omega),?_⟩;conv=>whnf)))
    ·have hk1:k=1:=by have:¬ (k:Int)<1:=by simpa using hb
                      omega
     subst hk1;clear hb;(repeat (refine gw rfl ?_;conv=>whnf));refine ⟨by omega,?_⟩;(conv=>whnf);refine ⟨i+1,[(8,some 8)],[],?_,by omega,by omega⟩;rw [UQ hlt];((conv=>whnf);repeat (first | exact ⟨⟩ | (refine ⟨by first | rfl | (simp;done) | (simp;omega),?_⟩;conv=>whnf)))
  ·have:i=E.length:=(by simp at hb;omega);subst this;clear hb;rw [List.take_length];(repeat (refine gw rfl ?_;conv=>whnf));refine ⟨Du rfl rfl _,?_⟩
   rw [show Ik (mpS (vI E)) (D.str { data:=#[100,105,115,116,105,110,99,116]:ByteArray }.data.toList)=mpS (vI E) from Uc dist (vI E) fun e he=>by
    obtain ⟨e',he',h⟩:=ET.1 (List.mem_map.2 ⟨e,he,rfl⟩:e.1∈vZ (vI E));rcases h with h | h
    ·rw [h];exact (hd e' he').1
    ·rw [h];exact (hd e' he').2]
   (conv=>whnf);(repeat (refine gw rfl ?_;conv=>whnf));refine .inr ⟨_,_,_,_,_,_,Tryz.ascending (mpS (vI E)) (vZ (vI E)) (by unfold mpS vZ;rw [List.map_map,List.map_map];rfl) (by have:=NY E;unfold vZ;rw [List.length_map];omega),[(0,8)],[],rfl,rfl,?_⟩;(conv=>whnf);refine ⟨rfl,?_⟩;(conv=>whnf);(repeat (refine gw rfl ?_;conv=>whnf));rfl
end Go.Proofs.YtdonenoiehdahaaGreat
namespace Go.Proofs
open Go.RowKit Go.Sort Go.Keys Go.Shelf
abbrev mO:=List UInt8×List UInt8×Bool
def bC (x y:List UInt8):Int:=if x<y then -1 else if y<x then 1 else 0
def lZ (x y:mO):Int:=if bC x.1 y.1≠0 then bC x.1 y.1 else if bC x.2.1 y.2.1≠0 then bC x.2.1 y.2.1 else if x.2.2=y.2.2 then 0 else if y.2.2 then -1 else 1
theorem pU (w:World) (o:Obj) (a:Addr) (h:a.block<w.heap.size):(w.alloc o).cell? a=w.cell? a:=World.cell?_of_block (Below.heap_alloc _ _ _ h)
theorem Na (P:Program) (t:TypeId) (x y:List UInt8) (w:World):Sem.run P (binOp .gtr t (encStr x) (encStr y)) w = .ok (.bool (Op.bytesLess y x)) w:=by
 simp [binOp,Op.stringOp,ByteArray.toList_eq];rw [bytesLess_eq,bytesLess_eq,Bool.eq_iff_iff];simp only [Bool.and_eq_true,Bool.not_eq_true',decide_eq_true_eq,decide_eq_false_iff_not,beq_eq_false_iff_ne,ne_eq];constructor
 ·rintro ⟨h1,h2⟩;rcases List.le_iff_lt_or_eq.1 (List.not_lt.1 h1) with h | h
  ·exact h
  ·exact absurd h.symm h2
 ·intro h;exact ⟨fun h'=>List.lt_irrefl _ (List.lt_trans h h'),fun e=>by rw [e] at h;exact List.lt_irrefl _ h⟩
theorem Tryz.acu (x:List UInt8) (w:World):Calls Tryz.prog 184 #[encStr x] w fun e w'=>e = .returned (.bool false)∧w'=w:=by
 go_enter Tryz.func184,Tryz.ntmps184
 go_wp2
 go_ret
 exact ⟨rfl,rfl⟩
theorem Tryz.O4 (x y:List UInt8) (w:World):Calls Tryz.prog 164 #[encStr x,encStr y] w fun e w'=>e = .returned (.int .i64 (bC x y))∧w'=w:=by
 have h1:=fun x=>Tryz.acu x w
 have hg:=fun x y w=>Na Tryz.prog 9 x y w
 go_enter Tryz.func164,Tryz.ntmps164
 go_wp2_with (go_at_call 184;refine (h1 _).mono ?_;rintro e w' ⟨rfl,rfl⟩)
 all_goals (try go_ret)
 all_goals refine ⟨?_,rfl⟩
 all_goals (unfold bC;simp only [bytesLess_eq,decide_eq_true_eq,decide_eq_false_iff_not] at *)
 all_goals first
  | (rw [if_pos (by assumption)];rfl)
  | (rw [if_neg (by assumption),if_pos (by assumption)];rfl)
  | (rw [if_neg (by assumption),if_neg (by assumption)];rfl)
theorem Tryz.orW (a c:Int) (b:Nat) (w:World) (h0:w.cell? ⟨b,0,none⟩=some (.int .i64 a)) (h1:w.cell? ⟨b,1,none⟩=some (.int .i64 c)) :
  Calls Tryz.prog 106 #[.slice (some ⟨b,0,none⟩) 2 2] w fun e w'=>e = .returned (.int .i64 (if a≠0 then a else c))∧w'=w:=by
 go_enter Tryz.func106,Tryz.ntmps106
 go_wp2
 refine wp_loop_rounds 3 ?_;by_cases ha:a=0
 ·subst ha;by_cases hc:c=0
  ·subst hc;repeat any_goals (rw [rounds_succ];go_wp2)
   all_goals (try go_ret)
   all_goals exact ⟨rfl,rfl⟩
  ·repeat any_goals (rw [rounds_succ];go_wp2)
   all_goals (try go_ret)
   all_goals exact ⟨by simp,rfl⟩
 ·repeat any_goals (rw [rounds_succ];go_wp2)
  all_goals (try go_ret)
  all_goals exact ⟨by simp,rfl⟩
set_option maxRecDepth 100000 in
set_option maxHeartbeats 2000000 in
theorem Tryz.Vt (x y:mO) (w:World):Calls Tryz.prog 154 #[kE x,kE y] w fun e w'=>e = .returned (.int .i64 (lZ x y))∧∃ q os',w'=grow (w.drewN q) os':=by
 obtain ⟨a,b,c⟩:=x;obtain ⟨a',b',c'⟩:=y;have mixed:Tryz.prog.follows .mixedOrders=true:=by kernel_rfl
 obtain ⟨R,hR⟩:∃ R,(if bC a a'≠0 then bC a a' else bC b b')=R:=⟨_,rfl⟩
 have hor:=Tryz.orW (bC a a') (bC b b') (w.heap.size+2);rw [hR] at hor;have hcmp:lZ (a,b,c) (a',b',c')=if R≠0 then R else if c=c' then 0 else if c' then -1 else 1:=by
  unfold lZ;simp only;rw [← hR];by_cases h:bC a a'=0<;>by_cases h':bC b b'=0<;>simp [h,h']
 rw [hcmp];clear hcmp hR;change Calls Tryz.prog 154 #[.agg #[encStr a,encStr b,.bool c],.agg #[encStr a',encStr b',.bool c']] w _
 go_enter Tryz.func154,Tryz.ntmps154
 go_wp2
 obtain ⟨W,hW⟩:∃ W,(w.alloc (.cells #[encStr a,encStr b,.bool c] 153)).alloc (.cells #[encStr a',encStr b',.bool c'] 153)=W:=⟨_,rfl⟩
 rw [hW];have b0:W.heap[w.heap.size]?=some (.cells #[encStr a,encStr b,.bool c] 153 (0,0)):=by
  rw [← hW];exact (Below.heap_alloc _ _ _ (by simp)).trans (World.alloc_heap_new w _)
 have b1:W.heap[w.heap.size+1]?=some (.cells #[encStr a',encStr b',.bool c'] 153 (0,0)):=by
  rw [← hW];have:=World.alloc_heap_new (w.alloc (.cells #[encStr a,encStr b,.bool c] 153)) (.cells #[encStr a',encStr b',.bool c'] 153)
  simpa using this
 have h0:∀ n,({ W with drawn:=n }:World).cell? ⟨w.heap.size,0,none⟩=some (encStr a):=by intro n;simp [World.cell?,b0]
 have h1:∀ n,({ W with drawn:=n }:World).cell? ⟨w.heap.size,1,none⟩=some (encStr b):=by intro n;simp [World.cell?,b0]
 have h2:∀ n,({ W with drawn:=n }:World).cell? ⟨w.heap.size,2,none⟩=some (.bool c):=by intro n;simp [World.cell?,b0]
 have k0:∀ n,({ W with drawn:=n }:World).cell? ⟨w.heap.size+1,0,none⟩=some (encStr a'):=by intro n;simp [World.cell?,b1]
 have k1:∀ n,({ W with drawn:=n }:World).cell? ⟨w.heap.size+1,1,none⟩=some (encStr b'):=by intro n;simp [World.cell?,b1]
 have k2:∀ n,({ W with drawn:=n }:World).cell? ⟨w.heap.size+1,2,none⟩=some (.bool c'):=by intro n;simp [World.cell?,b1]
 go_still_tail 10,mixed
 still_call (Tryz.O4 _ _ _)
 repeat still_step
 still_call (Tryz.O4 _ _ _)
 repeat still_step
 refine wpStill_nil ?_;have h2':=h2 (W.drawn+1);have k2':=k2 (W.drawn+1);clear h0 h1 h2 k0 k1 k2;have hsz:({ W with drawn:=W.drawn+1 }:World).heap.size=w.heap.size+2:=by rw [← hW];simp
 have hgr:∃ os',({ W with drawn:=W.drawn+1 }:World)=grow (w.drewN 1) os':=by
  refine ⟨#[.cells #[encStr a,encStr b,.bool c] 153 (0,0),.cells #[encStr a',encStr b',.bool c'] 153 (0,0)],?_⟩;rw [← hW,alloc_eq_grow,alloc_eq_grow,grow_grow];rfl
 generalize ({ W with drawn:=W.drawn+1 }:World)=X at h2' k2' hsz hgr ⊢;have hh2:∀ o,(X.alloc o).cell? ⟨w.heap.size,2,none⟩=some (.bool c):=fun o=>(pU X o _ (by show w.heap.size<_;omega)).trans h2'
 have hk2:∀ o,(X.alloc o).cell? ⟨w.heap.size+1,2,none⟩=some (.bool c'):=fun o=>(pU X o _ (by show w.heap.size+1<_;omega)).trans k2'
 clear h2' k2' b0 b1 hW;have hnew:=World.alloc_heap_new X (.cells #[.int .i64 (bC a a'),.int .i64 (bC b b')] 3);rw [hsz] at hnew;have hgY:∃ os',X.alloc (.cells #[.int .i64 (bC a a'),.int .i64 (bC b b')] 3)=grow (w.drewN 1) os':=by
  obtain ⟨os,hos⟩:=hgr;exact ⟨os++#[.cells #[.int .i64 (bC a a'),.int .i64 (bC b b')] 3],by rw [hos,alloc_eq_grow,grow_grow]⟩
 have hh2':=hh2 (.cells #[.int .i64 (bC a a'),.int .i64 (bC b b')] 3);have hk2':=hk2 (.cells #[.int .i64 (bC a a'),.int .i64 (bC b b')] 3);have hor':=hor (X.alloc (.cells #[.int .i64 (bC a a'),.int .i64 (bC b b')] 3)) (by simp [World.cell?,hnew]) (by simp [World.cell?,hnew]);clear hh2 hk2 hnew hgr hor
 go_wp2_with (go_at_call 106;refine hor'.mono ?_;rintro e w' ⟨rfl,rfl⟩;clear hor';generalize X.alloc (.cells #[.int .i64 (bC a a'),.int .i64 (bC b b')] 3)=Y at hgY hh2' hk2' ⊢)
 all_goals (try go_ret)
 all_goals (obtain ⟨os,hos⟩:=hgY;refine ⟨?_,1,os,hos⟩;show Ending.returned (.int .i64 _)=_)
 all_goals first | rfl | (simp;done) | (simp [*];done) | (cases c<;>cases c'<;>simp_all;done)
end Go.Proofs
