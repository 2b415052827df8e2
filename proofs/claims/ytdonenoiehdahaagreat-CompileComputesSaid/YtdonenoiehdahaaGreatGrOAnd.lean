/- Walks: the reference's least levels. -/
import Derived.Test.YtdonenoiehdahaaGreatGrJAnd
set_option linter.all false
namespace Go.Proofs.YtdonenoiehdahaaGreat
open Go Go.Abs Go.Own
attribute [local irreducible] WP
def egD (e:Eg):D := .agg [.str e.1,.str e.2.1,.bool e.2.2]
theorem Ve {l:List Eg} {i:Nat} (h:i<l.length):(l.map egD)[((i:Int)).toNat]?=some (.agg [.str l[i].1,.str l[i].2.1,.bool l[i].2.2]):=ay h
def lvD (names:List Str) (lv:Str→Nat):List D:=names.map fun n=>enV (n,((lv n:Nat):Int))
def badR (k:Nat):Bool→Nat→Bool:=fun _ need=>decide (k<need)
def dK (names:List Str) (E:List Eg):Option (Str→Nat):=bD (badR names.length) E (room names.length names (fun _=>0)+1) (fun _=>0)
def Jh (up:Bool) (lv:Str→Nat) (x:Str) (v:Nat):Str→Nat:=match up with | true=>raise lv x v | false=>lv
theorem rU (bad:Bool→Nat→Bool) (e:Eg) (E:List Eg) (lv:Str→Nat) (m:Bool):dW bad (e::E) lv m=match bad (decide (lv e.1<lv e.2.1+fM e)) (lv e.2.1+fM e) with
  | true=>none
  | false=>dW bad E (Jh (decide (lv e.1<lv e.2.1+fM e)) lv e.1 (lv e.2.1+fM e)) (m||decide (lv e.1<lv e.2.1+fM e)):=rfl
def qc (names:List Str) (lw lv:Str→Nat) (k:Nat):List D:=lvD (names.take k) lv++lvD (names.drop k) lw
theorem Gj (names:List Str) (lw lv:Str→Nat):qc names lw lv 0=lvD names lw:=by simp [qc,lvD]
theorem Gm (names:List Str) (lw lv:Str→Nat):qc names lw lv names.length=lvD names lv:=by simp [qc,lvD]
theorem I5 {names:List Str} {lw lv:Str→Nat} {k:Nat} (h:k<names.length):qc names lw lv k=lvD (names.take k) lv++enV (names[k],((lw names[k]:Nat):Int))::lvD (names.drop (k+1)) lw:=by
 unfold qc;rw [List.drop_eq_getElem_cons h];rfl
theorem KC {names:List Str} {lw lv:Str→Nat} {k:Nat} (h:k<names.length):(qc names lw lv k)[k]?=some (enV (names[k],((lw names[k]:Nat):Int))):=by
 have hl:(lvD (names.take k) lv).length=k:=by simp [lvD];omega
 rw [I5 h,List.getElem?_append_right (by omega),hl];simp
theorem Gl {names:List Str} {lw lv:Str→Nat} {k:Nat} (h:k<names.length):lvD (names.take k) lv++enV (names[k],((lv names[k]:Nat):Int))::lvD (names.drop (k+1)) lw=qc names lw lv (k+1):=by
 unfold qc lvD;rw [List.take_succ_eq_append_getElem h,List.map_append,List.append_assoc];rfl
theorem uq {names:List Str} {lw lv:Str→Nat} {k:Nat} (h:k<names.length) (he:lv names[k]=lw names[k]):qc names lw lv k=qc names lw lv (k+1):=by
 rw [I5 h,← he,Gl h]
theorem KA {names:List Str} {lw lv:Str→Nat} {k:Nat} (h:k<names.length):(qc names lw lv k).set k (enV (names[k],((lv names[k]:Nat):Int)))=qc names lw lv (k+1):=by
 have hl:(lvD (names.take k) lv).length=k:=by simp [lvD];omega
 rw [I5 h,List.set_append_right _ _ (by omega),hl,Nat.sub_self,List.set_cons_zero,Gl h]
theorem Dv {to':Str} {lw:Str→Nat}:∀ {names:List Str},to'∈names→ofL to' (names.map fun n=>(n,((lw n:Nat):Int)))=lw to'
 | n::l,h=>by
   rw [List.map_cons,ofL];by_cases e:n=to'
   ·rw [if_pos e,e]
   ·rw [if_neg e];exact Dv (by rcases List.mem_cons.1 h with h | h;exact absurd h.symm e;exact h)
theorem Js (names:List Str) (lw:Str→Nat):lvD names lw=(names.map fun n=>(n,((lw n:Nat):Int))).map enV:=by unfold lvD;rw [List.map_map];rfl
theorem Tryz.Xu (names:List Str) (E:List Eg) (hm:∀ e∈E,e.1∈names∧e.2.1∈names) (hn:names.length≤64) (hE:E.length≤10000) :
  Pure Tryz.prog 83 [.list (E.map egD),.list (names.map D.str)] (match dK names E with | some lv=>[.list (lvD names lv),.bool true] | none=>[.list [],.bool false]):=by
 refine Pure.of_wp hT (nt:=_) (c:=_) Tryz.func83 rfl rfl rfl rfl (by kernel_rfl) ?_;intro w0 ok0 β0;repeat (refine gw rfl ?_;conv=>whnf)
 refine WP.loop (α:=Nat) (fun i=>⟨[(0,.d (.list (E.map egD))),(1,.d (.list (names.map D.str))),(6,.sl 6 2 0 i),(7,.d (.int .i64 i))],[((6,0),some (.arr 2 (lvD (names.take i) fun _=>0)))],[6]⟩) (fun i=>i≤names.length) (fun i=>names.length-i) 0 [(6,none)] [] ?_ ?_ ?_
 ·((conv=>whnf);repeat (first | exact ⟨⟩ | (refine ⟨by first | rfl | (simp;done) | (simp;omega),?_⟩;conv=>whnf)))
 ·exact Nat.zero_le _
 ·intro i hi;repeat (refine gw rfl ?_;conv=>whnf)
  rw [List.length_map];(split<;>rename_i hb<;>(try rw [hb])<;>(conv=>whnf))
  ·have hlt:i<names.length:=(by simpa using hb);clear hb;(repeat (refine gw rfl ?_;conv=>whnf));refine ⟨by omega,_,ay hlt,rfl,?_⟩;(conv=>whnf);refine ⟨rfl,?_⟩;(conv=>whnf);refine ⟨rfl,?_⟩;(conv=>whnf);refine ⟨(names.take i).map fun n=>enV (n,0),by rw [List.drop_zero];exact List.take_of_length_le (by simp only [lvD,List.length_map,List.length_take];omega),by simp only [lvD,List.length_map,List.length_take];omega,?_⟩;(conv=>whnf);refine ⟨_,rfl,Nat.le_refl _,?_⟩;(conv=>whnf);refine ⟨by show (_+1)*24≤_;simp only [List.length_map,List.length_take];omega,?_⟩;(conv=>whnf);(repeat (refine gw rfl ?_;conv=>whnf));refine ⟨by omega,?_⟩;(conv=>whnf);refine ⟨i+1,[(6,some 25)],[],?_,by omega,by omega⟩;have e1:((names.take i).map fun n=>enV (n,0)).length+(List.take [D.agg [D.str names[i],D.int .i64 0]].length (List.drop 0 [D.agg [D.str names[i],D.int .i64 0]])).length=i+1:=(by simp only [List.length_map,List.length_take,List.drop_zero,List.length_singleton];omega);have e2:((names.take i).map fun n=>enV (n,0))++List.take [D.agg [D.str names[i],D.int .i64 0]].length (List.drop 0 [D.agg [D.str names[i],D.int .i64 0]])=lvD (names.take (i+1)) fun _=>0:=by
    unfold lvD;rw [List.take_succ_eq_append_getElem hlt,List.map_append];rfl
   rw [e1,e2];((conv=>whnf);repeat (first | exact ⟨⟩ | (refine ⟨by first | rfl | (simp;done) | (simp;omega),?_⟩;conv=>whnf)))
  ·have:i=names.length:=(by simp at hb;omega);subst this;clear hb;rw [List.take_length];(repeat (refine gw rfl ?_;conv=>whnf));refine WP.loop (α:=(Str→Nat)×Bool×Nat) (fun y=>⟨[(0,.d (.list (E.map egD))),(1,.d (.list (names.map D.str))),(6,.sl 6 2 0 names.length),(8,.d (.bool y.2.1))],[((6,0),some (.arr 2 (lvD names y.1)))],[6]⟩)
    (fun y=>match y.2.1 with | true=>dK names E=bD (badR names.length) E y.2.2 y.1∧room names.length names y.1<y.2.2∧∀ x∈names,y.1 x≤names.length | false=>dK names E=some y.1∧y.2.2=0) (fun y=>y.2.2) (fun _=>0,true,room names.length names (fun _=>0)+1) [(6,some 6)] [] ?_ ?_ ?_
   ·((conv=>whnf);repeat (first | exact ⟨⟩ | (refine ⟨by first | rfl | (simp;done) | (simp;omega),?_⟩;conv=>whnf)))
   ·exact ⟨rfl,Nat.lt_succ_self _,fun x _=>Nat.zero_le _⟩
   ·rintro ⟨lv,more,F⟩ hI;cases more with
    | false=>
      obtain ⟨hI,_⟩:=hI;dsimp only at hI;rw [hI];(repeat (refine gw rfl ?_;conv=>whnf));refine ⟨lvD names lv,by rw [List.drop_zero];exact List.take_of_length_le (by simp [lvD]),by simp [lvD],?_⟩;conv=>whnf
    | true=>
      obtain ⟨hI,hF,hl0⟩:=hI;dsimp only at hI hF hl0 ⊢;obtain ⟨F,rfl⟩:∃ F',F=F'+1:=⟨F-1,by omega⟩
      (repeat (refine gw rfl ?_;conv=>whnf));refine WP.loop (α:=(Str→Nat)×Bool×Nat) (fun y=>⟨[(0,.d (.list (E.map egD))),(1,.d (.list (names.map D.str))),(6,.sl 6 2 0 names.length),(8,.d (.bool y.2.1)),(9,.d (.int .i64 y.2.2))],[((6,0),some (.arr 2 (lvD names y.1)))],[6]⟩)
       (fun y=>y.2.2≤E.length∧dW (badR names.length) E lv false=dW (badR names.length) (E.drop y.2.2) y.1 y.2.1∧∀ x∈names,y.1 x≤names.length) (fun y=>E.length-y.2.2) (lv,false,0) [(6,some 6)] [] ?_ ?_ ?_
      ·((conv=>whnf);repeat (first | exact ⟨⟩ | (refine ⟨by first | rfl | (simp;done) | (simp;omega),?_⟩;conv=>whnf)))
      ·exact ⟨Nat.zero_le _,rfl,hl0⟩
      ·rintro ⟨lw,mo,j⟩ ⟨hj,hrel,hlw⟩;dsimp only at hj hrel hlw ⊢;(repeat (refine gw rfl ?_;conv=>whnf));rw [List.length_map];(split<;>rename_i hb<;>(try rw [hb])<;>(conv=>whnf))
       ·have hjl:j<E.length:=(by simpa using hb);clear hb;(repeat (refine gw rfl ?_;conv=>whnf));have hej:E[j]∈E:=List.getElem_mem hjl;obtain ⟨hfm,htm⟩:=hm E[j] hej;refine ⟨by omega,_,Ve hjl,rfl,?_⟩;(conv=>whnf);have hof:=Tryz.ZU (names.map fun n=>(n,((lw n:Nat):Int))) E[j].2.1 (by rw [List.length_map];omega);rw [← Js,Dv htm] at hof;refine .inl ⟨lvD names lw,by rw [List.drop_zero];exact List.take_of_length_le (by simp [lvD]),by simp [lvD],_,hof,.inr rfl,?_⟩;(conv=>whnf);(repeat (refine gw rfl ?_;conv=>whnf));refine ⟨by omega,_,Ve hjl,rfl,?_⟩;(conv=>whnf);(repeat (refine gw rfl ?_;conv=>whnf));cases hng:E[j].2.2 with
        | false=>
          have hnd:lw E[j].2.1+fM E[j]=lw E[j].2.1:=(by unfold fM;rw [hng];rfl);have hstep:=hrel;rw [List.drop_eq_getElem_cons hjl,rU,hnd] at hstep;obtain ⟨up,hup⟩:∃ up,up=decide (lw E[j].1<lw E[j].2.1):=⟨_,rfl⟩
          rw [← hup] at hstep;obtain ⟨lz,hlz⟩:∃ lz,lz=Jh up lw E[j].1 (lw E[j].2.1):=⟨_,rfl⟩
          rw [← hlz] at hstep;have hlt1:=hlw E[j].2.1 htm;(conv=>whnf);(repeat (refine gw rfl ?_;conv=>whnf));refine WP.loop (α:=Nat) (fun k=>⟨[(0,.d (.list (E.map egD))),(1,.d (.list (names.map D.str))),(6,.sl 6 2 0 names.length),(8,.d (.bool (mo||(names.take k).any fun n=>decide (n=E[j].1)&&up))),(9,.d (.int .i64 j)),(10,.d (.int .i64 ((lw E[j].2.1:Nat):Int))),(11,.d (.int .i64 k))],[((6,0),some (.arr 2 (qc names lw lz k)))],[6]⟩)
           (fun k=>k≤names.length) (fun k=>names.length-k) 0 [(6,some 6)] [] ?_ ?_ ?_
          ·rw [Gj,List.take_zero,List.any_nil,Bool.or_false];((conv=>whnf);repeat (first | exact ⟨⟩ | (refine ⟨by first | rfl | (simp;done) | (simp;omega),?_⟩;conv=>whnf)))
          ·exact Nat.zero_le _
          ·intro k hk;(repeat (refine gw rfl ?_;conv=>whnf));(split<;>rename_i hb<;>(try rw [hb])<;>(conv=>whnf))
           ·have hkl:k<names.length:=(by simpa using hb);clear hb;have hget:=KC (lw:=lw) (lv:=lz) hkl;have htak:∀ p:Str→Bool,(names.take (k+1)).any p=((names.take k).any p||p names[k]):=fun p=>by
             rw [List.take_succ_eq_append_getElem hkl,List.any_append];simp
            (repeat (refine gw rfl ?_;conv=>whnf));refine ⟨by omega,?_⟩;rw [Int.toNat_natCast];(conv=>whnf);refine ⟨_,by rw [Nat.zero_add];exact hget,?_⟩;(conv=>whnf);refine ⟨by omega,_,Ve hjl,rfl,?_⟩;(conv=>whnf);by_cases en:names[k]=E[j].1
            ·rw [show (names[k]==E[j].1)=true by simpa using en];(conv=>whnf);refine ⟨by omega,?_⟩;rw [Int.toNat_natCast];(conv=>whnf);refine ⟨_,by rw [Nat.zero_add];exact hget,?_⟩;(conv=>whnf);have hcd:decide (((lw names[k]:Nat):Int)<((lw E[j].2.1:Nat):Int))=up:=by
              rw [hup,en,Bool.eq_iff_iff];simp<;>omega
             rw [hcd];refine W7 ?_ rfl;(conv=>whnf);cases up with
             | true=>
               have hz:lz names[k]=lw E[j].2.1:=(by rw [hlz,en];exact Dl _ _ _);(conv=>whnf);refine W1 ?_;refine W2 hT hM [] ?_;(conv=>whnf);refine ⟨by omega,?_⟩;rw [Int.toNat_natCast];(conv=>whnf);refine ⟨rfl,_,by rw [Nat.zero_add];exact hget,?_⟩;(conv=>whnf);refine .inr ⟨_,rfl,⟨rfl,by decide⟩,?_⟩;(conv=>whnf);(repeat (refine gw rfl ?_;conv=>whnf));refine ⟨by omega,?_⟩;(conv=>whnf);refine ⟨k+1,[(6,some 6)],[],?_,by omega,by omega⟩;have e2:(qc names lw lz k).set (0+k) (D.agg (qo [D.str (names[k],((lw names[k]:Nat):Int)).1,D.int .i64 (names[k],((lw names[k]:Nat):Int)).2] (0+1) (D.int .i64 ((lw E[j].2.1:Nat):Int)).cells))=qc names lw lz (k+1):=by
                rw [Nat.zero_add,← KA hkl,hz];rfl
               have e3:(mo||(names.take (k+1)).any fun n=>decide (n=E[j].1)&&true)=true:=by
                rw [htak,decide_eq_true en];simp
               rw [e2,e3];((conv=>whnf);repeat (first | exact ⟨⟩ | (refine ⟨by first | rfl | (simp;done) | (simp;omega),?_⟩;conv=>whnf)))
             | false=>
               have hkeep:lz names[k]=lw names[k]:=(by rw [hlz];rfl);(conv=>whnf);(repeat (refine gw rfl ?_;conv=>whnf));refine ⟨by omega,?_⟩;(conv=>whnf);refine ⟨k+1,[(6,some 6)],[],?_,by omega,by omega⟩;rw [← uq hkl hkeep,htak,Bool.and_false,Bool.or_false];((conv=>whnf);repeat (first | exact ⟨⟩ | (refine ⟨by first | rfl | (simp;done) | (simp;omega),?_⟩;conv=>whnf)))
            ·rw [show (names[k]==E[j].1)=false by simpa using en];have hkeep:lz names[k]=lw names[k]:=by
              rw [hlz];cases up with
              | true=>show raise lw E[j].1 _ names[k]=_;unfold raise;rw [if_neg en]
              | false=>rfl
             (conv=>whnf);(repeat (refine gw rfl ?_;conv=>whnf));refine ⟨by omega,?_⟩;(conv=>whnf);refine ⟨k+1,[(6,some 6)],[],?_,by omega,by omega⟩;rw [← uq hkl hkeep,htak,decide_eq_false en,Bool.false_and,Bool.or_false];((conv=>whnf);repeat (first | exact ⟨⟩ | (refine ⟨by first | rfl | (simp;done) | (simp;omega),?_⟩;conv=>whnf)))
           ·have:k=names.length:=(by simp at hb;omega);subst this;clear hb;have hany:(names.any fun n=>decide (n=E[j].1)&&up)=up:=by
             cases up with
             | false=>simp
             | true=>simp only [Bool.and_true];exact List.any_eq_true.2 ⟨E[j].1,hfm,by simp⟩
            rw [List.take_length,hany,Gm];(repeat (refine gw rfl ?_;conv=>whnf));rw [List.length_map];cases hbg:decide (((lw E[j].2.1:Nat):Int)>((names.length:Nat):Int)) with
            | true=>
              have hb1:badR names.length up (lw E[j].2.1)=true:=(by unfold badR;exact decide_eq_true (by have:=of_decide_eq_true hbg;omega));rw [hb1] at hstep;unfold bD at hI;rw [hstep] at hI;rw [hI];(conv=>whnf);repeat (refine gw rfl ?_;conv=>whnf)
            | false=>
              have hle:lw E[j].2.1≤names.length:=(by have:=of_decide_eq_false hbg;omega);have hb1:badR names.length up (lw E[j].2.1)=false:=(by unfold badR;exact decide_eq_false (by omega));rw [hb1] at hstep;(conv=>whnf);(repeat (refine gw rfl ?_;conv=>whnf));refine ⟨by omega,?_⟩;(conv=>whnf);refine ⟨(lz,mo||up,j+1),[(6,some 6)],[],?_,⟨by dsimp only;omega,hstep,fun x hx=>?_⟩,by dsimp only;omega⟩
              ·((conv=>whnf);repeat (first | exact ⟨⟩ | (refine ⟨by first | rfl | (simp;done) | (simp;omega),?_⟩;conv=>whnf)))
              ·dsimp only;rw [hlz];cases up with
               | true=>
                 show raise lw E[j].1 (lw E[j].2.1) x≤_;unfold raise;split
                 ·exact hle
                 ·exact hlw x hx
               | false=>exact hlw x hx
        | true=>
          have hnd:lw E[j].2.1+fM E[j]=lw E[j].2.1+1:=(by unfold fM;rw [hng]);have hstep:=hrel;rw [List.drop_eq_getElem_cons hjl,rU,hnd] at hstep;obtain ⟨up,hup⟩:∃ up,up=decide (lw E[j].1<lw E[j].2.1+1):=⟨_,rfl⟩
          rw [← hup] at hstep;obtain ⟨lz,hlz⟩:∃ lz,lz=Jh up lw E[j].1 (lw E[j].2.1+1):=⟨_,rfl⟩
          rw [← hlz] at hstep;have hlt1:=hlw E[j].2.1 htm;(conv=>whnf);(repeat (refine gw rfl ?_;conv=>whnf));refine ⟨by omega,?_⟩;(conv=>whnf);(repeat (refine gw rfl ?_;conv=>whnf));refine WP.loop (α:=Nat) (fun k=>⟨[(0,.d (.list (E.map egD))),(1,.d (.list (names.map D.str))),(6,.sl 6 2 0 names.length),(8,.d (.bool (mo||(names.take k).any fun n=>decide (n=E[j].1)&&up))),(9,.d (.int .i64 j)),(10,.d (.int .i64 ((lw E[j].2.1+1:Nat):Int))),(11,.d (.int .i64 k))],[((6,0),some (.arr 2 (qc names lw lz k)))],[6]⟩)
           (fun k=>k≤names.length) (fun k=>names.length-k) 0 [(6,some 6)] [] ?_ ?_ ?_
          ·rw [Gj,List.take_zero,List.any_nil,Bool.or_false];((conv=>whnf);repeat (first | exact ⟨⟩ | (refine ⟨by first | rfl | (simp;done) | (simp;omega),?_⟩;conv=>whnf)))
          ·exact Nat.zero_le _
          ·intro k hk;(repeat (refine gw rfl ?_;conv=>whnf));(split<;>rename_i hb<;>(try rw [hb])<;>(conv=>whnf))
           ·have hkl:k<names.length:=(by simpa using hb);clear hb;have hget:=KC (lw:=lw) (lv:=lz) hkl;have htak:∀ p:Str→Bool,(names.take (k+1)).any p=((names.take k).any p||p names[k]):=fun p=>by
             rw [List.take_succ_eq_append_getElem hkl,List.any_append];simp
            (repeat (refine gw rfl ?_;conv=>whnf));refine ⟨by omega,?_⟩;rw [Int.toNat_natCast];(conv=>whnf);refine ⟨_,by rw [Nat.zero_add];exact hget,?_⟩;(conv=>whnf);refine ⟨by omega,_,Ve hjl,rfl,?_⟩;(conv=>whnf);by_cases en:names[k]=E[j].1
            ·rw [show (names[k]==E[j].1)=true by simpa using en];(conv=>whnf);refine ⟨by omega,?_⟩;rw [Int.toNat_natCast];(conv=>whnf);refine ⟨_,by rw [Nat.zero_add];exact hget,?_⟩;(conv=>whnf);have hcd:decide (((lw names[k]:Nat):Int)<((lw E[j].2.1+1:Nat):Int))=up:=by
              rw [hup,en,Bool.eq_iff_iff];simp<;>omega
             rw [hcd];refine W7 ?_ rfl;(conv=>whnf);cases up with
             | true=>
               have hz:lz names[k]=lw E[j].2.1+1:=(by rw [hlz,en];exact Dl _ _ _);(conv=>whnf);refine W1 ?_;refine W2 hT hM [] ?_;(conv=>whnf);refine ⟨by omega,?_⟩;rw [Int.toNat_natCast];(conv=>whnf);refine ⟨rfl,_,by rw [Nat.zero_add];exact hget,?_⟩;(conv=>whnf);refine .inr ⟨_,rfl,⟨rfl,by decide⟩,?_⟩;(conv=>whnf);(repeat (refine gw rfl ?_;conv=>whnf));refine ⟨by omega,?_⟩;(conv=>whnf);refine ⟨k+1,[(6,some 6)],[],?_,by omega,by omega⟩;have e2:(qc names lw lz k).set (0+k) (D.agg (qo [D.str (names[k],((lw names[k]:Nat):Int)).1,D.int .i64 (names[k],((lw names[k]:Nat):Int)).2] (0+1) (D.int .i64 ((lw E[j].2.1+1:Nat):Int)).cells))=qc names lw lz (k+1):=by
                rw [Nat.zero_add,← KA hkl,hz];rfl
               have e3:(mo||(names.take (k+1)).any fun n=>decide (n=E[j].1)&&true)=true:=by
                rw [htak,decide_eq_true en];simp
               rw [e2,e3];((conv=>whnf);repeat (first | exact ⟨⟩ | (refine ⟨by first | rfl | (simp;done) | (simp;omega),?_⟩;conv=>whnf)))
             | false=>
               have hkeep:lz names[k]=lw names[k]:=(by rw [hlz];rfl);(conv=>whnf);(repeat (refine gw rfl ?_;conv=>whnf));refine ⟨by omega,?_⟩;(conv=>whnf);refine ⟨k+1,[(6,some 6)],[],?_,by omega,by omega⟩;rw [← uq hkl hkeep,htak,Bool.and_false,Bool.or_false];((conv=>whnf);repeat (first | exact ⟨⟩ | (refine ⟨by first | rfl | (simp;done) | (simp;omega),?_⟩;conv=>whnf)))
            ·rw [show (names[k]==E[j].1)=false by simpa using en];have hkeep:lz names[k]=lw names[k]:=by
              rw [hlz];cases up with
              | true=>show raise lw E[j].1 _ names[k]=_;unfold raise;rw [if_neg en]
              | false=>rfl
             (conv=>whnf);(repeat (refine gw rfl ?_;conv=>whnf));refine ⟨by omega,?_⟩;(conv=>whnf);refine ⟨k+1,[(6,some 6)],[],?_,by omega,by omega⟩;rw [← uq hkl hkeep,htak,decide_eq_false en,Bool.false_and,Bool.or_false];((conv=>whnf);repeat (first | exact ⟨⟩ | (refine ⟨by first | rfl | (simp;done) | (simp;omega),?_⟩;conv=>whnf)))
           ·have:k=names.length:=(by simp at hb;omega);subst this;clear hb;have hany:(names.any fun n=>decide (n=E[j].1)&&up)=up:=by
             cases up with
             | false=>simp
             | true=>simp only [Bool.and_true];exact List.any_eq_true.2 ⟨E[j].1,hfm,by simp⟩
            rw [List.take_length,hany,Gm];(repeat (refine gw rfl ?_;conv=>whnf));rw [List.length_map];cases hbg:decide (((lw E[j].2.1+1:Nat):Int)>((names.length:Nat):Int)) with
            | true=>
              have hb1:badR names.length up (lw E[j].2.1+1)=true:=(by unfold badR;exact decide_eq_true (by have:=of_decide_eq_true hbg;omega));rw [hb1] at hstep;unfold bD at hI;rw [hstep] at hI;rw [hI];(conv=>whnf);repeat (refine gw rfl ?_;conv=>whnf)
            | false=>
              have hle:lw E[j].2.1+1≤names.length:=(by have:=of_decide_eq_false hbg;omega);have hb1:badR names.length up (lw E[j].2.1+1)=false:=(by unfold badR;exact decide_eq_false (by omega));rw [hb1] at hstep;(conv=>whnf);(repeat (refine gw rfl ?_;conv=>whnf));refine ⟨by omega,?_⟩;(conv=>whnf);refine ⟨(lz,mo||up,j+1),[(6,some 6)],[],?_,⟨by dsimp only;omega,hstep,fun x hx=>?_⟩,by dsimp only;omega⟩
              ·((conv=>whnf);repeat (first | exact ⟨⟩ | (refine ⟨by first | rfl | (simp;done) | (simp;omega),?_⟩;conv=>whnf)))
              ·dsimp only;rw [hlz];cases up with
               | true=>
                 show raise lw E[j].1 (lw E[j].2.1+1) x≤_;unfold raise;split
                 ·exact hle
                 ·exact hlw x hx
               | false=>exact hlw x hx
       ·have:j=E.length:=(by simp at hb;omega);subst this;clear hb;rw [List.drop_length] at hrel;have hrel:dW (badR names.length) E lv false=some (lw,mo):=hrel;(repeat (refine gw rfl ?_;conv=>whnf));unfold bD at hI;rw [hrel] at hI;cases mo with
        | true=>
          refine ⟨(lw,true,F),[(6,some 6)],[],?_,⟨hI,?_,hlw⟩,Nat.lt_succ_self _⟩
          ·((conv=>whnf);repeat (first | exact ⟨⟩ | (refine ⟨by first | rfl | (simp;done) | (simp;omega),?_⟩;conv=>whnf)))
          ·rcases nG (names:=names) (k:=names.length) (fun u n h _=>by unfold badR at h;have:=of_decide_eq_false h;omega) hm hrel with h | h
           ·cases h
           ·dsimp only;omega
        | false=>
          refine ⟨(lw,false,0),[(6,some 6)],[],?_,⟨hI,rfl⟩,Nat.succ_pos _⟩;((conv=>whnf);repeat (first | exact ⟨⟩ | (refine ⟨by first | rfl | (simp;done) | (simp;omega),?_⟩;conv=>whnf)))
def nmS (atoms:List Tm):List Str:=atoms.foldl (fun l t=>vK l t.name) []
theorem UO {atoms:List Tm} {i:Nat} (h:i<atoms.length):nmS (atoms.take (i+1))=vK (nmS (atoms.take i)) atoms[i].name:=by
 unfold nmS;rw [List.take_succ_eq_append_getElem h,List.foldl_append];rfl
theorem OI (atoms:List Tm):(nmS atoms).length≤atoms.length:=by
 have key:∀ (l:List Tm) (a:List Str),(l.foldl (fun l t=>vK l t.name) a).length≤a.length+l.length:=fun l=>by
  induction l with
  | nil=>intro a;exact Nat.le_refl _
  | cons t l ih=>
    intro a;have h1:=ih (vK a t.name);have h2:=XA a t.name;simp only [List.foldl_cons,List.length_cons];omega
 have:=key atoms [];unfold nmS
 simpa using this
theorem BJ {atoms:List Tm} {x:Str}:x∈nmS atoms↔∃ t∈atoms,t.name=x:=by
 have key:∀ (l:List Tm) (a:List Str),x∈l.foldl (fun l t=>vK l t.name) a↔x∈a∨∃ t∈l,t.name=x:=fun l=>by
  induction l with
  | nil=>intro a;simp
  | cons t l ih=>
    intro a;rw [List.foldl_cons,ih,U7];constructor
    ·rintro ((h | h) | ⟨u,hu,he⟩)
     ·exact .inr ⟨t,by simp,h.symm⟩
     ·exact .inl h
     ·exact .inr ⟨u,by simp [hu],he⟩
    ·rintro (h | ⟨u,hu,he⟩)
     ·exact .inl (.inr h)
     ·rcases List.mem_cons.1 hu with rfl | hu
      ·exact .inl (.inl he.symm)
      ·exact .inr ⟨u,hu,he⟩
 have:=key atoms [];unfold nmS
 simpa using this
def nameAt (atoms:List Tm) (i:Int):Str:=match atoms[i.toNat]? with | some t=>t.name | none=>[]
def jM (atoms:List Tm) (r:Gr) (k:Nat):Eg:=match decide (k<r.2.1.length) with
 | true=>(nameAt atoms r.1,nameAt atoms ((r.2.1[k]?).getD 0),false)
 | false=>(nameAt atoms r.1,nameAt atoms ((r.2.2[k-r.2.1.length]?).getD 0),true)
def zY (E:List Eg) (e:Eg):List Eg:=match E.any (fun x=>decide (x=e)) with | true=>E | false=>E++[e]
theorem Wy {E:List Eg} {e x:Eg}:x∈zY E e↔x∈E∨x=e:=by
 unfold zY;cases h:E.any (fun x=>decide (x=e)) with
 | true=>
   have hm:e∈E:=by
    obtain ⟨y,hy,he⟩:=List.any_eq_true.1 h;rw [← of_decide_eq_true he];exact hy
   exact ⟨.inl,fun h=>h.elim id fun e'=>e' ▸ hm⟩
 | false=>simp
def egR (atoms:List Tm) (r:Gr) (E:List Eg) (k:Nat):List Eg:=(List.range k).foldl (fun E j=>zY E (jM atoms r j)) E
theorem mg (atoms:List Tm) (r:Gr) (E:List Eg) (k:Nat):egR atoms r E (k+1)=zY (egR atoms r E k) (jM atoms r k):=by
 unfold egR;rw [List.range_succ,List.foldl_append];rfl
theorem QX {atoms:List Tm} {r:Gr} {E:List Eg} {x:Eg}:∀ {k:Nat},x∈egR atoms r E k↔x∈E∨∃ j,j<k∧x=jM atoms r j
 | 0=>by simp [egR]
 | k+1=>by
   rw [mg,Wy,QX];constructor
   ·rintro ((h | ⟨j,hj,he⟩) | h)
    ·exact .inl h
    ·exact .inr ⟨j,by omega,he⟩
    ·exact .inr ⟨k,by omega,h⟩
   ·rintro (h | ⟨j,hj,he⟩)
    ·exact .inl (.inl h)
    ·rcases Nat.lt_or_ge j k with h1 | h1
     ·exact .inl (.inr ⟨j,h1,he⟩)
     ·obtain rfl:j=k:=by omega
      exact .inr he
def szR (r:Gr):Nat:=r.2.1.length+r.2.2.length
def dX (atoms:List Tm) (rules:List Gr) (E:List Eg):List Eg:=rules.foldl (fun E r=>egR atoms r E (szR r)) E
theorem Iq {atoms:List Tm} {rules:List Gr} {E:List Eg} {i:Nat} (h:i<rules.length):dX atoms (rules.take (i+1)) E=egR atoms rules[i] (dX atoms (rules.take i) E) (szR rules[i]):=by
 unfold dX;rw [List.take_succ_eq_append_getElem h,List.foldl_append];rfl
theorem BQ {atoms:List Tm} {x:Eg}:∀ {rules:List Gr} {E:List Eg},x∈dX atoms rules E↔x∈E∨∃ r∈rules,∃ j,j<szR r∧x=jM atoms r j
 | [],E=>by simp [dX]
 | r::l,E=>by
   show x∈dX atoms l (egR atoms r E (szR r))↔_;rw [BQ,QX];constructor
   ·rintro ((h | h) | ⟨r',hr',h⟩)
    ·exact .inl h
    ·exact .inr ⟨r,by simp,h⟩
    ·exact .inr ⟨r',by simp [hr'],h⟩
   ·rintro (h | ⟨r',hr',h⟩)
    ·exact .inl (.inl h)
    ·rcases List.mem_cons.1 hr' with rfl | hr'
     ·exact .inl (.inr h)
     ·exact .inr ⟨r',hr',h⟩
theorem VD (e:Eg) (a b:Str) (c:Bool):aF [D.str e.1,D.str e.2.1,D.bool e.2.2] [D.str a,D.str b,D.bool c]=decide (e=(a,b,c)):=by
 rw [Bool.eq_iff_iff,decide_eq_true_iff];obtain ⟨x,y,z⟩:=e;simp [aF,eq1]
theorem yR {E:List Eg} {p:Eg→Bool} {j:Nat} (h:j<E.length):(E.take (j+1)).any p=((E.take j).any p||p E[j]):=by
 rw [List.take_succ_eq_append_getElem h,List.any_append];simp
theorem Tryz.XV (atoms:List Tm) (rules:List Gr) (hin:dZ atoms.length rules) (hn:atoms.length≤64) (hr:rules.length≤128) (hf:∀ r∈rules,r.2.1.length+r.2.2.length≤16) :
  Pure Tryz.prog 82 [gD atoms rules] [.list ((dX atoms rules []).map egD),.list ((nmS atoms).map D.str)]:=by
 refine Pure.of_wp hT (nt:=_) (c:=_) Tryz.func82 rfl rfl rfl rfl (by kernel_rfl) ?_;intro w0 ok0 β0;repeat (refine gw rfl ?_;conv=>whnf)
 refine WP.loop (α:=Nat) (fun i=>⟨[(1,.d (.ref [.list (atoms.map enT),.list (rules.map enG)] 0)),(4,.d (.list ((nmS (atoms.take i)).map D.str))),(5,.d (.int .i64 i))],[],[]⟩) (fun i=>i≤atoms.length) (fun i=>atoms.length-i) 0 [] [] ?_ ?_ ?_
 ·((conv=>whnf);repeat (first | exact ⟨⟩ | (refine ⟨by first | rfl | (simp;done) | (simp;omega),?_⟩;conv=>whnf)))
 ·exact Nat.zero_le _
 ·intro i hi;have hnl:=OI (atoms.take i);rw [List.length_take] at hnl;repeat (refine gw rfl ?_;conv=>whnf)
  rw [List.length_map];(split<;>rename_i hb<;>(try rw [hb])<;>(conv=>whnf))
  ·have hlt:i<atoms.length:=(by simpa using hb);clear hb;(repeat (refine gw rfl ?_;conv=>whnf));refine ⟨by omega,_,dB hlt,rfl,?_⟩;(conv=>whnf);refine .inl ⟨_,Tryz.U6 (nmS (atoms.take i)) atoms[i].name (by omega),.inl rfl,?_⟩;rw [← UO hlt];(conv=>whnf);(repeat (refine gw rfl ?_;conv=>whnf));refine ⟨by omega,?_⟩;(conv=>whnf);refine ⟨i+1,[],[],?_,by omega,by omega⟩;((conv=>whnf);repeat (first | exact ⟨⟩ | (refine ⟨by first | rfl | (simp;done) | (simp;omega),?_⟩;conv=>whnf)))
  ·have:i=atoms.length:=(by simp at hb;omega);subst this;clear hb;rw [List.take_length];(repeat (refine gw rfl ?_;conv=>whnf));refine WP.loop (α:=Nat) (fun i=>⟨[(1,.d (.ref [.list (atoms.map enT),.list (rules.map enG)] 0)),(4,.d (.list ((nmS atoms).map D.str))),(6,.sl 6 3 0 (dX atoms (rules.take i) []).length),(7,.d (.int .i64 i))],[((6,0),some (.arr 3 ((dX atoms (rules.take i) []).map egD)))],[6]⟩) (fun i=>i≤rules.length∧(dX atoms (rules.take i) []).length≤16*i) (fun i=>rules.length-i) 0 [(6,none)] [] ?_ ?_ ?_
   ·((conv=>whnf);repeat (first | exact ⟨⟩ | (refine ⟨by first | rfl | (simp;done) | (simp;omega),?_⟩;conv=>whnf)))
   ·exact ⟨Nat.zero_le _,Nat.zero_le _⟩
   ·rintro i ⟨hi,hEl⟩;(repeat (refine gw rfl ?_;conv=>whnf));rw [List.length_map];(split<;>rename_i hb<;>(try rw [hb])<;>(conv=>whnf))
    ·have hlt:i<rules.length:=(by simpa using hb);clear hb;have hm:=hin.head rules[i] (List.getElem_mem hlt);have hbd:=hin.body rules[i] (List.getElem_mem hlt);have hfi:=hf rules[i] (List.getElem_mem hlt);have hml:rules[i].1.toNat<atoms.length:=(by omega);generalize hE0:dX atoms (rules.take i) []=E0 at hEl;(repeat (refine gw rfl ?_;conv=>whnf));refine ⟨by omega,_,Md hlt,rfl,?_⟩;(conv=>whnf);repeat (refine gw rfl ?_;conv=>whnf)
     refine WP.loop (α:=Nat) (fun k=>⟨[(1,.d (.ref [.list (atoms.map enT),.list (rules.map enG)] 0)),(4,.d (.list ((nmS atoms).map D.str))),(6,.sl 6 3 0 (egR atoms rules[i] E0 k).length),(7,.d (.int .i64 i)),(8,.ptr 8 0),(9,.d (.int .i64 k))],
       [((8,0),some (.cell (.d (.int .i64 rules[i].1)))),((8,1),some (.cell (.d (.list (rules[i].2.1.map enI))))),((8,2),some (.cell (.d (.list (rules[i].2.2.map enI))))),((6,0),some (.arr 3 ((egR atoms rules[i] E0 k).map egD)))],[8,6]⟩)
      (fun k=>k≤szR rules[i]∧(egR atoms rules[i] E0 k).length≤E0.length+k) (fun k=>szR rules[i]-k) 0 [(8,some 8),(6,some 6)] [] ?_ ?_ ?_
     ·((conv=>whnf);repeat (first | exact ⟨⟩ | (refine ⟨by first | rfl | (simp;done) | (simp;omega),?_⟩;conv=>whnf)))
     ·exact ⟨Nat.zero_le _,Nat.le_refl _⟩
     ·rintro k ⟨hk,hEk⟩;have hsz:szR rules[i]=rules[i].2.1.length+rules[i].2.2.length:=rfl;(repeat (refine gw rfl ?_;conv=>whnf));rw [List.length_map,List.length_map];refine ⟨by omega,?_⟩;(conv=>whnf);(repeat (refine gw rfl ?_;conv=>whnf));(split<;>rename_i hb<;>(try rw [hb])<;>(conv=>whnf))
      ·have hkl:k<szR rules[i]:=(by have:=of_decide_eq_true hb;omega);clear hb;(conv=>whnf);(repeat (refine gw rfl ?_;conv=>whnf));refine ⟨by omega,_,vU hml,rfl,?_⟩;(conv=>whnf);refine ⟨rfl,?_⟩;(conv=>whnf);rw [List.length_map];(conv=>whnf);refine ⟨rfl,?_⟩;(conv=>whnf);(repeat (refine gw rfl ?_;conv=>whnf));cases hge:decide (((k:Nat):Int)≥((rules[i].2.1.length:Nat):Int)) with
       | true=>
         have hkp:rules[i].2.1.length≤k:=(by have:=of_decide_eq_true hge;omega);have hkn:k-rules[i].2.1.length<rules[i].2.2.length:=(by omega);have hyr:=hbd.2 rules[i].2.2[k-rules[i].2.1.length] (List.getElem_mem hkn);have hyl:rules[i].2.2[k-rules[i].2.1.length].toNat<atoms.length:=(by omega);(conv=>whnf);(repeat (refine gw rfl ?_;conv=>whnf));rw [List.length_map];refine ⟨by omega,?_⟩;rw [show ((k:Nat):Int)-((rules[i].2.1.length:Nat):Int)=((k-rules[i].2.1.length:Nat):Int) by omega];(conv=>whnf);refine ⟨by omega,_,ay hkn,rfl,?_⟩;(conv=>whnf);refine ⟨by omega,_,vU hyl,rfl,?_⟩;(conv=>whnf);refine ⟨rfl,?_⟩;(conv=>whnf);have heg:jM atoms rules[i] k=(atoms[rules[i].1.toNat].name,atoms[rules[i].2.2[k-rules[i].2.1.length].toNat].name,true):=by
          unfold jM nameAt;rw [show decide (k<rules[i].2.1.length)=false from decide_eq_false (by omega),List.getElem?_eq_getElem hml,List.getElem?_eq_getElem hkn,Option.getD_some,List.getElem?_eq_getElem hyl]
         generalize hE1:egR atoms rules[i] E0 k=E1 at hEk ⊢
         refine WP.weak (l':=⟨[(1,.d (.ref [.list (atoms.map enT),.list (rules.map enG)] 0)),(4,.d (.list ((nmS atoms).map D.str))),(6,.sl 6 3 0 E1.length),(7,.d (.int .i64 i)),(8,.ptr 8 0),(9,.d (.int .i64 k)),(10,.ptr 10 0)],
          [((8,0),some (.cell (.d (.int .i64 rules[i].1)))),((8,1),some (.cell (.d (.list (rules[i].2.1.map enI))))),((8,2),some (.cell (.d (.list (rules[i].2.2.map enI))))),((10,0),some (.cell (.d (.str atoms[rules[i].1.toNat].name)))),((10,1),some (.cell (.d (.str atoms[rules[i].2.2[k-rules[i].2.1.length].toNat].name)))),((10,2),some (.cell (.d (.bool true)))),((6,0),some (.arr 3 (E1.map egD)))],[8,10,6]⟩)
          [(8,some 8),(10,some 10),(6,some 6)] [] ?_ ?_
         ·((conv=>whnf);repeat (first | exact ⟨⟩ | (refine ⟨by first | rfl | (simp;done) | (simp;omega),?_⟩;conv=>whnf)))
         repeat (refine gw rfl ?_;conv=>whnf)
         refine WP.loop (α:=Nat) (fun j=>⟨[(1,.d (.ref [.list (atoms.map enT),.list (rules.map enG)] 0)),(4,.d (.list ((nmS atoms).map D.str))),(6,.sl 6 3 0 E1.length),(7,.d (.int .i64 i)),(8,.ptr 8 0),(9,.d (.int .i64 k)),(10,.ptr 10 0),(11,.d (.bool ((E1.take j).any fun x=>decide (x=jM atoms rules[i] k)))),(12,.d (.int .i64 j))],
          [((8,0),some (.cell (.d (.int .i64 rules[i].1)))),((8,1),some (.cell (.d (.list (rules[i].2.1.map enI))))),((8,2),some (.cell (.d (.list (rules[i].2.2.map enI))))),((10,0),some (.cell (.d (.str atoms[rules[i].1.toNat].name)))),((10,1),some (.cell (.d (.str atoms[rules[i].2.2[k-rules[i].2.1.length].toNat].name)))),((10,2),some (.cell (.d (.bool true)))),((6,0),some (.arr 3 (E1.map egD)))],[8,10,6]⟩)
          (fun j=>j≤E1.length) (fun j=>E1.length-j) 0 [(8,some 8),(10,some 10),(6,some 6)] [] ?_ ?_ ?_
         ·((conv=>whnf);repeat (first | exact ⟨⟩ | (refine ⟨by first | rfl | (simp;done) | (simp;omega),?_⟩;conv=>whnf)))
         ·exact Nat.zero_le _
         ·intro j hj;(repeat (refine gw rfl ?_;conv=>whnf));(split<;>rename_i hb<;>(try rw [hb])<;>(conv=>whnf))
          ·have hjl:j<E1.length:=(by simpa using hb);clear hb;(repeat (refine gw rfl ?_;conv=>whnf));cases hold:(E1.take j).any fun x=>decide (x=jM atoms rules[i] k) with
           | true=>
             (conv=>whnf);(repeat (refine gw rfl ?_;conv=>whnf));refine ⟨by omega,?_⟩;(conv=>whnf);refine ⟨j+1,[(8,some 8),(10,some 10),(6,some 6)],[],?_,by omega,by omega⟩;rw [yR hjl,hold,Bool.true_or];((conv=>whnf);repeat (first | exact ⟨⟩ | (refine ⟨by first | rfl | (simp;done) | (simp;omega),?_⟩;conv=>whnf)))
           | false=>
             (conv=>whnf);refine ⟨by omega,?_⟩;rw [Int.toNat_natCast];(conv=>whnf);refine ⟨_,by rw [Nat.zero_add,List.getElem?_map,List.getElem?_eq_getElem hjl];rfl,?_⟩;(conv=>whnf);rw [VD,← heg];(repeat (refine gw rfl ?_;conv=>whnf));refine ⟨by omega,?_⟩;(conv=>whnf);refine ⟨j+1,[(8,some 8),(10,some 10),(6,some 6)],[],?_,by omega,by omega⟩;rw [yR hjl,hold,Bool.false_or];((conv=>whnf);repeat (first | exact ⟨⟩ | (refine ⟨by first | rfl | (simp;done) | (simp;omega),?_⟩;conv=>whnf)))
          ·have:j=E1.length:=(by simp at hb;omega);subst this;clear hb;rw [List.take_length];have hsc:=mg atoms rules[i] E0 k;rw [hE1] at hsc;unfold zY at hsc;(repeat (refine gw rfl ?_;conv=>whnf));cases hold:E1.any fun x=>decide (x=jM atoms rules[i] k) with
           | true=>
             rw [hold] at hsc;have hsc:egR atoms rules[i] E0 (k+1)=E1:=hsc;(conv=>whnf);(repeat (refine gw rfl ?_;conv=>whnf));refine ⟨by omega,?_⟩;(conv=>whnf);refine ⟨k+1,[(8,some 8),(6,some 6)],[],?_,⟨by omega,by rw [hsc];omega⟩,by omega⟩;rw [hsc];((conv=>whnf);repeat (first | exact ⟨⟩ | (refine ⟨by first | rfl | (simp;done) | (simp;omega),?_⟩;conv=>whnf)))
           | false=>
             rw [hold] at hsc;have hsc:egR atoms rules[i] E0 (k+1)=E1++[jM atoms rules[i] k]:=hsc;(conv=>whnf);(repeat (refine gw rfl ?_;conv=>whnf));refine ⟨rfl,?_⟩;(conv=>whnf);refine ⟨E1.map egD,by rw [List.drop_zero];exact List.take_of_length_le (by simp),by simp,?_⟩;(conv=>whnf);refine ⟨_,rfl,Nat.le_refl _,?_⟩;(conv=>whnf);refine ⟨by show (_+1)*40≤_;rw [List.length_map];omega,?_⟩;(conv=>whnf);(repeat (refine gw rfl ?_;conv=>whnf));refine ⟨by omega,?_⟩;(conv=>whnf);refine ⟨k+1,[(8,some 8),(6,some 112)],[],?_,⟨by omega,by rw [hsc,List.length_append,List.length_singleton];omega⟩,by omega⟩;have e1:(E1.map egD).length+(List.take [D.agg [D.str atoms[rules[i].1.toNat].name,D.str atoms[rules[i].2.2[k-rules[i].2.1.length].toNat].name,D.bool true]].length (List.drop 0 [D.agg [D.str atoms[rules[i].1.toNat].name,D.str atoms[rules[i].2.2[k-rules[i].2.1.length].toNat].name,D.bool true]])).length=(E1++[jM atoms rules[i] k]).length:=(by simp);have e2:E1.map egD++List.take [D.agg [D.str atoms[rules[i].1.toNat].name,D.str atoms[rules[i].2.2[k-rules[i].2.1.length].toNat].name,D.bool true]].length (List.drop 0 [D.agg [D.str atoms[rules[i].1.toNat].name,D.str atoms[rules[i].2.2[k-rules[i].2.1.length].toNat].name,D.bool true]])=(E1++[jM atoms rules[i] k]).map egD:=(by rw [heg,List.map_append];rfl);rw [hsc,e1,e2];((conv=>whnf);repeat (first | exact ⟨⟩ | (refine ⟨by first | rfl | (simp;done) | (simp;omega),?_⟩;conv=>whnf)))
       | false=>
         have hkp:k<rules[i].2.1.length:=(by have:=of_decide_eq_false hge;omega);have hyr:=hbd.1 rules[i].2.1[k] (List.getElem_mem hkp);have hyl:rules[i].2.1[k].toNat<atoms.length:=(by omega);have hkn:=hkp;(conv=>whnf);(repeat (refine gw rfl ?_;conv=>whnf));refine ⟨by omega,_,ay hkn,rfl,?_⟩;(conv=>whnf);refine ⟨by omega,_,vU hyl,rfl,?_⟩;(conv=>whnf);refine ⟨rfl,?_⟩;(conv=>whnf);have heg:jM atoms rules[i] k=(atoms[rules[i].1.toNat].name,atoms[rules[i].2.1[k].toNat].name,false):=by
          unfold jM nameAt;rw [show decide (k<rules[i].2.1.length)=true from decide_eq_true (by omega),List.getElem?_eq_getElem hml,List.getElem?_eq_getElem hkn,Option.getD_some,List.getElem?_eq_getElem hyl]
         generalize hE1:egR atoms rules[i] E0 k=E1 at hEk ⊢
         refine WP.weak (l':=⟨[(1,.d (.ref [.list (atoms.map enT),.list (rules.map enG)] 0)),(4,.d (.list ((nmS atoms).map D.str))),(6,.sl 6 3 0 E1.length),(7,.d (.int .i64 i)),(8,.ptr 8 0),(9,.d (.int .i64 k)),(10,.ptr 10 0)],
          [((8,0),some (.cell (.d (.int .i64 rules[i].1)))),((8,1),some (.cell (.d (.list (rules[i].2.1.map enI))))),((8,2),some (.cell (.d (.list (rules[i].2.2.map enI))))),((10,0),some (.cell (.d (.str atoms[rules[i].1.toNat].name)))),((10,1),some (.cell (.d (.str atoms[rules[i].2.1[k].toNat].name)))),((10,2),some (.cell (.d (.bool false)))),((6,0),some (.arr 3 (E1.map egD)))],[8,10,6]⟩)
          [(8,some 8),(10,some 10),(6,some 6)] [] ?_ ?_
         ·((conv=>whnf);repeat (first | exact ⟨⟩ | (refine ⟨by first | rfl | (simp;done) | (simp;omega),?_⟩;conv=>whnf)))
         repeat (refine gw rfl ?_;conv=>whnf)
         refine WP.loop (α:=Nat) (fun j=>⟨[(1,.d (.ref [.list (atoms.map enT),.list (rules.map enG)] 0)),(4,.d (.list ((nmS atoms).map D.str))),(6,.sl 6 3 0 E1.length),(7,.d (.int .i64 i)),(8,.ptr 8 0),(9,.d (.int .i64 k)),(10,.ptr 10 0),(11,.d (.bool ((E1.take j).any fun x=>decide (x=jM atoms rules[i] k)))),(12,.d (.int .i64 j))],
          [((8,0),some (.cell (.d (.int .i64 rules[i].1)))),((8,1),some (.cell (.d (.list (rules[i].2.1.map enI))))),((8,2),some (.cell (.d (.list (rules[i].2.2.map enI))))),((10,0),some (.cell (.d (.str atoms[rules[i].1.toNat].name)))),((10,1),some (.cell (.d (.str atoms[rules[i].2.1[k].toNat].name)))),((10,2),some (.cell (.d (.bool false)))),((6,0),some (.arr 3 (E1.map egD)))],[8,10,6]⟩)
          (fun j=>j≤E1.length) (fun j=>E1.length-j) 0 [(8,some 8),(10,some 10),(6,some 6)] [] ?_ ?_ ?_
         ·((conv=>whnf);repeat (first | exact ⟨⟩ | (refine ⟨by first | rfl | (simp;done) | (simp;omega),?_⟩;conv=>whnf)))
         ·exact Nat.zero_le _
         ·intro j hj;(repeat (refine gw rfl ?_;conv=>whnf));(split<;>rename_i hb<;>(try rw [hb])<;>(conv=>whnf))
          ·have hjl:j<E1.length:=(by simpa using hb);clear hb;(repeat (refine gw rfl ?_;conv=>whnf));cases hold:(E1.take j).any fun x=>decide (x=jM atoms rules[i] k) with
           | true=>
             (conv=>whnf);(repeat (refine gw rfl ?_;conv=>whnf));refine ⟨by omega,?_⟩;(conv=>whnf);refine ⟨j+1,[(8,some 8),(10,some 10),(6,some 6)],[],?_,by omega,by omega⟩;rw [yR hjl,hold,Bool.true_or];((conv=>whnf);repeat (first | exact ⟨⟩ | (refine ⟨by first | rfl | (simp;done) | (simp;omega),?_⟩;conv=>whnf)))
           | false=>
             (conv=>whnf);refine ⟨by omega,?_⟩;rw [Int.toNat_natCast];(conv=>whnf);refine ⟨_,by rw [Nat.zero_add,List.getElem?_map,List.getElem?_eq_getElem hjl];rfl,?_⟩;(conv=>whnf);rw [VD,← heg];(repeat (refine gw rfl ?_;conv=>whnf));refine ⟨by omega,?_⟩;(conv=>whnf);refine ⟨j+1,[(8,some 8),(10,some 10),(6,some 6)],[],?_,by omega,by omega⟩;rw [yR hjl,hold,Bool.false_or];((conv=>whnf);repeat (first | exact ⟨⟩ | (refine ⟨by first | rfl | (simp;done) | (simp;omega),?_⟩;conv=>whnf)))
          ·have:j=E1.length:=(by simp at hb;omega);subst this;clear hb;rw [List.take_length];have hsc:=mg atoms rules[i] E0 k;rw [hE1] at hsc;unfold zY at hsc;(repeat (refine gw rfl ?_;conv=>whnf));cases hold:E1.any fun x=>decide (x=jM atoms rules[i] k) with
           | true=>
             rw [hold] at hsc;have hsc:egR atoms rules[i] E0 (k+1)=E1:=hsc;(conv=>whnf);(repeat (refine gw rfl ?_;conv=>whnf));refine ⟨by omega,?_⟩;(conv=>whnf);refine ⟨k+1,[(8,some 8),(6,some 6)],[],?_,⟨by omega,by rw [hsc];omega⟩,by omega⟩;rw [hsc];((conv=>whnf);repeat (first | exact ⟨⟩ | (refine ⟨by first | rfl | (simp;done) | (simp;omega),?_⟩;conv=>whnf)))
           | false=>
             rw [hold] at hsc;have hsc:egR atoms rules[i] E0 (k+1)=E1++[jM atoms rules[i] k]:=hsc;(conv=>whnf);(repeat (refine gw rfl ?_;conv=>whnf));refine ⟨rfl,?_⟩;(conv=>whnf);refine ⟨E1.map egD,by rw [List.drop_zero];exact List.take_of_length_le (by simp),by simp,?_⟩;(conv=>whnf);refine ⟨_,rfl,Nat.le_refl _,?_⟩;(conv=>whnf);refine ⟨by show (_+1)*40≤_;rw [List.length_map];omega,?_⟩;(conv=>whnf);(repeat (refine gw rfl ?_;conv=>whnf));refine ⟨by omega,?_⟩;(conv=>whnf);refine ⟨k+1,[(8,some 8),(6,some 112)],[],?_,⟨by omega,by rw [hsc,List.length_append,List.length_singleton];omega⟩,by omega⟩;have e1:(E1.map egD).length+(List.take [D.agg [D.str atoms[rules[i].1.toNat].name,D.str atoms[rules[i].2.1[k].toNat].name,D.bool false]].length (List.drop 0 [D.agg [D.str atoms[rules[i].1.toNat].name,D.str atoms[rules[i].2.1[k].toNat].name,D.bool false]])).length=(E1++[jM atoms rules[i] k]).length:=(by simp);have e2:E1.map egD++List.take [D.agg [D.str atoms[rules[i].1.toNat].name,D.str atoms[rules[i].2.1[k].toNat].name,D.bool false]].length (List.drop 0 [D.agg [D.str atoms[rules[i].1.toNat].name,D.str atoms[rules[i].2.1[k].toNat].name,D.bool false]])=(E1++[jM atoms rules[i] k]).map egD:=(by rw [heg,List.map_append];rfl);rw [hsc,e1,e2];((conv=>whnf);repeat (first | exact ⟨⟩ | (refine ⟨by first | rfl | (simp;done) | (simp;omega),?_⟩;conv=>whnf)))
      ·have hke:k=szR rules[i]:=(by have:=of_decide_eq_false hb;omega);subst hke;clear hb;rw [hE0.symm,← Iq hlt] at hEk ⊢;(conv=>whnf);(repeat (refine gw rfl ?_;conv=>whnf));refine ⟨by omega,?_⟩;(conv=>whnf);refine ⟨i+1,[(6,some 6)],[],?_,⟨by omega,by rw [hE0] at hEk;omega⟩,by omega⟩;((conv=>whnf);repeat (first | exact ⟨⟩ | (refine ⟨by first | rfl | (simp;done) | (simp;omega),?_⟩;conv=>whnf)))
    ·have:i=rules.length:=(by simp at hb;omega);subst this;clear hb;rw [List.take_length];(repeat (refine gw rfl ?_;conv=>whnf));refine ⟨(dX atoms rules []).map egD,by rw [List.drop_zero];exact List.take_of_length_le (by simp),by simp,?_⟩;conv=>whnf
theorem jH {atoms:List Tm} {i:Int} (h:i.toNat<atoms.length):nameAt atoms i∈nmS atoms:=by
 unfold nameAt;rw [List.getElem?_eq_getElem h];exact BJ.2 ⟨_,List.getElem_mem h,rfl⟩
theorem VI {atoms:List Tm} {r:Gr} {j:Nat} (hh:0≤r.1∧r.1<atoms.length) (hp:∀ x∈r.2.1,0≤x∧x<(atoms.length:Int)) (hq:∀ x∈r.2.2,0≤x∧x<(atoms.length:Int)) (hj:j<szR r):(jM atoms r j).1∈nmS atoms∧(jM atoms r j).2.1∈nmS atoms:=by
 unfold jM szR at *;by_cases h:j<r.2.1.length
 ·rw [decide_eq_true h,List.getElem?_eq_getElem h,Option.getD_some];have:=hp r.2.1[j] (List.getElem_mem h);exact ⟨jH (by omega),jH (by omega)⟩
 ·have h2:j-r.2.1.length<r.2.2.length:=by omega
  rw [decide_eq_false h,List.getElem?_eq_getElem h2,Option.getD_some];have:=hq r.2.2[j-r.2.1.length] (List.getElem_mem h2);exact ⟨jH (by omega),jH (by omega)⟩
theorem Pv {atoms:List Tm} {rules:List Gr} (hin:dZ atoms.length rules):∀ e∈dX atoms rules [],e.1∈nmS atoms∧e.2.1∈nmS atoms:=fun e he=>by
 rcases BQ.1 he with h | ⟨r,hr,j,hj,rfl⟩
 ·cases h
 ·exact VI (hin.head r hr) (hin.body r hr).1 (hin.body r hr).2 hj
theorem VH (atoms:List Tm) (r:Gr) (E:List Eg):∀ k,(egR atoms r E k).length≤E.length+k
 | 0=>by simp [egR]
 | k+1=>by
   rw [mg];have:=VH atoms r E k;unfold zY;split
   ·omega
   ·rw [List.length_append,List.length_singleton];omega
theorem VG {atoms:List Tm}:∀ {rules:List Gr} {E:List Eg},(∀ r∈rules,szR r≤16)→(dX atoms rules E).length≤E.length+16*rules.length
 | [],E,_=>by simp [dX]
 | r::l,E,h=>by
   have h1:=VG (rules:=l) (E:=egR atoms r E (szR r)) (atoms:=atoms) fun r' hr'=>h r' (by simp [hr'])
   have h2:=VH atoms r E (szR r);have h3:=h r (by simp);show (dX atoms l (egR atoms r E (szR r))).length≤_;rw [List.length_cons];omega
def strD (atoms:List Tm) (names:List Str) (E:List Eg):List D:=match dK names E with
 | some lv=>[.list (atoms.map fun t => .int .i64 (ofL t.name (names.map fun n=>(n,((lv n:Nat):Int))))),.int .i64 0]
 | none=>[.list [],.int .i64 10]
theorem Tryz.KE (atoms:List Tm) (rules:List Gr) (hok:∀ x∈atoms,okT x) (hv:aK atoms rules=true) (hn:atoms.length≤64) (hr:rules.length≤128) (hf:∀ r∈rules,r.2.1.length+r.2.2.length≤16) :
  Pure Tryz.prog 37 [gD atoms rules] (strD atoms (nmS atoms) (dX atoms rules [])):=by
 have hfit:zJ rules:=fun r h=>by have:=hf r h;omega
 have hin:=eP hv;have hnl:=OI atoms;have hel:=VG (atoms:=atoms) (E:=[]) hf;have hle:=Tryz.Xu (nmS atoms) (dX atoms rules []) (Pv hin) (by omega) (by simp only [List.length_nil] at hel;omega);unfold strD;refine Pure.of_wp hT (nt:=_) (c:=_) Tryz.func37 rfl rfl rfl rfl (by kernel_rfl) ?_;intro w0 ok0 β0;repeat (refine gw rfl ?_;conv=>whnf)
 refine .inl ⟨_,Tryz.BD atoms rules hok hfit,.inl rfl,?_⟩;rw [hv];conv=>whnf
 repeat (refine gw rfl ?_;conv=>whnf)
 refine .inl ⟨_,Tryz.XV atoms rules hin hn hr hf,.inl rfl,?_⟩;conv=>whnf
 repeat (refine gw rfl ?_;conv=>whnf)
 cases hlv:dK (nmS atoms) (dX atoms rules []) with
 | none=>
   rw [hlv] at hle;dsimp only at hle;refine .inl ⟨_,hle,.inl rfl,?_⟩;(conv=>whnf);repeat (refine gw rfl ?_;conv=>whnf)
 | some lv=>
   rw [hlv] at hle;dsimp only at hle;refine .inl ⟨_,hle,.inl rfl,?_⟩;(conv=>whnf);(repeat (refine gw rfl ?_;conv=>whnf));refine WP.loop (α:=Nat) (fun i=>⟨[(1,.d (.ref [.list (atoms.map enT),.list (rules.map enG)] 0)),(6,.d (.list (lvD (nmS atoms) lv))),(8,.sl 8 1 0 i),(9,.d (.int .i64 i))],[((8,0),some (.arr 1 ((atoms.take i).map fun t => .int .i64 (ofL t.name ((nmS atoms).map fun n=>(n,((lv n:Nat):Int)))))))],[8]⟩)
    (fun i=>i≤atoms.length) (fun i=>atoms.length-i) 0 [(8,none)] [] ?_ ?_ ?_
   ·((conv=>whnf);repeat (first | exact ⟨⟩ | (refine ⟨by first | rfl | (simp;done) | (simp;omega),?_⟩;conv=>whnf)))
   ·exact Nat.zero_le _
   ·intro i hi;(repeat (refine gw rfl ?_;conv=>whnf));rw [List.length_map];(split<;>rename_i hb<;>(try rw [hb])<;>(conv=>whnf))
    ·have hlt:i<atoms.length:=(by simpa using hb);clear hb;have hof:=Tryz.ZU ((nmS atoms).map fun n=>(n,((lv n:Nat):Int))) atoms[i].name (by rw [List.length_map];omega);rw [← Js] at hof;(repeat (refine gw rfl ?_;conv=>whnf));refine ⟨by omega,_,dB hlt,rfl,?_⟩;(conv=>whnf);refine .inl ⟨_,hof,.inl rfl,?_⟩;(conv=>whnf);refine ⟨rfl,?_⟩;(conv=>whnf);refine ⟨(atoms.take i).map fun t => .int .i64 (ofL t.name ((nmS atoms).map fun n=>(n,((lv n:Nat):Int)))),by rw [List.drop_zero];exact List.take_of_length_le (by rw [List.length_map,List.length_take];omega),by rw [List.length_map,List.length_take];omega,?_⟩;(conv=>whnf);refine ⟨_,rfl,Nat.le_refl _,?_⟩;(conv=>whnf);refine ⟨by show (_+1)*8≤_;rw [List.length_map,List.length_take];omega,?_⟩;(conv=>whnf);(repeat (refine gw rfl ?_;conv=>whnf));refine ⟨by omega,?_⟩;(conv=>whnf);refine ⟨i+1,[(8,some 43)],[],?_,by omega,by omega⟩;have e1:((atoms.take i).map fun t=>D.int .i64 (ofL t.name ((nmS atoms).map fun n=>(n,((lv n:Nat):Int))))).length+(List.take [D.int .i64 (ofL atoms[i].name ((nmS atoms).map fun n=>(n,((lv n:Nat):Int))))].length (List.drop 0 [D.int .i64 (ofL atoms[i].name ((nmS atoms).map fun n=>(n,((lv n:Nat):Int))))])).length=i+1:=(by simp only [List.length_map,List.length_take,List.drop_zero,List.length_singleton];omega);have e2:((atoms.take i).map fun t=>D.int .i64 (ofL t.name ((nmS atoms).map fun n=>(n,((lv n:Nat):Int)))))++List.take [D.int .i64 (ofL atoms[i].name ((nmS atoms).map fun n=>(n,((lv n:Nat):Int))))].length (List.drop 0 [D.int .i64 (ofL atoms[i].name ((nmS atoms).map fun n=>(n,((lv n:Nat):Int))))])=(atoms.take (i+1)).map fun t=>D.int .i64 (ofL t.name ((nmS atoms).map fun n=>(n,((lv n:Nat):Int)))):=by
      rw [List.take_succ_eq_append_getElem hlt,List.map_append];rfl
     rw [e1,e2];((conv=>whnf);repeat (first | exact ⟨⟩ | (refine ⟨by first | rfl | (simp;done) | (simp;omega),?_⟩;conv=>whnf)))
    ·have:i=atoms.length:=(by simp at hb;omega);subst this;clear hb;rw [List.take_length];(repeat (refine gw rfl ?_;conv=>whnf));refine ⟨_,rfl,by simp,?_⟩;(conv=>whnf);rw [List.drop_zero,List.take_of_length_le (by simp)]
end Go.Proofs.YtdonenoiehdahaaGreat
namespace Go.Own
open Go.Abs
abbrev Gt:=Int×Int×List Int
abbrev Mi:=List (Int×Int)
def mpI (m:Mi):List (D×D):=m.map fun e=>(.int .i64 e.1,.int .i64 e.2)
def jv:Mi→Int→Option Int
 | [],_=>none
 | e::m,k=>if k=e.1 then some e.2 else jv m k
def gU:Mi→Int→Int→Mi
 | [],k,v=>[(k,v)]
 | e::m,k,v=>if k=e.1 then (k,v)::m else e::gU m k v
theorem eqI (a b:Int):Abs.aF (D.cells (.int .i64 a)) (D.cells (.int .i64 b))=decide (a=b):=by
 rfl
theorem yg (k:Int):∀ m:Mi,Abs.look (mpI m) (.int .i64 k)=(jv m k).map (D.int .i64)
 | []=>rfl
 | e::m=>by
   have ih:=yg k m;show (match Abs.aF (D.cells (.int .i64 k)) (D.cells (.int .i64 e.1)) with | true=>some (D.int .i64 e.2) | false=>Abs.look (mpI m) (.int .i64 k))=_;unfold jv;rw [eqI];by_cases h:k=e.1
   ·rw [if_pos h,decide_eq_true h];rfl
   ·rw [if_neg h,decide_eq_false h,← ih]
theorem nH (k v:Int):∀ m:Mi,Abs.oC (mpI m) (.int .i64 k) (.int .i64 v)=mpI (gU m k v)
 | []=>rfl
 | e::m=>by
   have ih:=nH k v m;show (match Abs.aF (D.cells (.int .i64 k)) (D.cells (.int .i64 e.1)) with | true=>(D.int .i64 k,D.int .i64 v)::mpI m | false=>(D.int .i64 e.1,D.int .i64 e.2)::Abs.oC (mpI m) (.int .i64 k) (.int .i64 v))=_;unfold gU;rw [eqI];by_cases h:k=e.1
   ·rw [if_pos h,decide_eq_true h];rfl
   ·rw [if_neg h,decide_eq_false h,ih];rfl
theorem gY {te:Abs.TE} (h:te.ks=[.i .i64]) (hk:te.k.isAgg=false) (m:Mi):∀ e∈mpI m,Abs.bY te e.1=true:=fun e he=>by
 obtain ⟨x,_,rfl⟩:=List.mem_map.1 he;unfold Abs.bY;rw [h];show (match Abs.kF (.i .i64) (.int .i64 x.1) with | true=>!te.k.isAgg | false=>false)=true;rw [hk];rfl
end Go.Own
namespace Go.Proofs.YtdonenoiehdahaaGreat
open Go Go.Abs Go.Own
attribute [local irreducible] WP
def dN (x:Gt):D := .agg [.int .i64 x.1,.int .i64 x.2.1,.list (x.2.2.map enI)]
abbrev In:=Nat×Tm
def iq (x:In):D := .agg [.int .i64 (x.1:Nat),.str x.2.name,.list (x.2.args.map enT)]
def ig (gates:List Gt) (roles bases:List Tm) (ins:List In) (ini next legal:List Int) (goals sees:List D) (term:Int) (hid:Bool):D:=
 .agg [.list (gates.map dN),.list (roles.map enT),.list (bases.map enT),.list (ins.map iq),.list (ini.map enI),.list (next.map enI),.list (legal.map enI),.list goals,.list sees,.int .i64 term,.bool hid]
abbrev Ot:=Nat×Int×Tm×Int
def aV (x:Ot):D := .agg [.int .i64 (x.1:Nat),.int .i64 x.2.1,.str x.2.2.1.name,.list (x.2.2.1.args.map enT),.int .i64 x.2.2.2]
theorem Tryz.add (gs:List Gt) (k i:Int) (l:List Int) (hg:gs.length≤1000000000000) :
  aH Tryz.prog 43 [0,1] [.ptr 0 0,.d (.int .i64 k),.d (.int .i64 i),.d (.list (l.map enI))]
   [((0,3),.cell (.sl 1 3 0 gs.length)),((1,0),.arr 3 (gs.map dN))] [2] [.d (.int .i64 (gs.length:Nat))]
   [((0,3),.cell (.sl 2 3 0 (gs.length+1))),((2,0),.arr 3 ((gs++[(k,i,l)]).map dN))]:=by
 refine aH.of_wp hT (nt:=_) (c:=_) Tryz.func43 rfl rfl rfl rfl (by kernel_rfl) rfl rfl ?_;intro w0 ok0 wr β0;repeat (refine gw rfl ?_;conv=>whnf)
 refine ⟨rfl,?_⟩;conv=>whnf
 refine ⟨rfl,?_⟩;conv=>whnf
 refine ⟨rfl,?_⟩;conv=>whnf
 refine ⟨rfl,?_⟩;conv=>whnf
 refine ⟨gs.map dN,by rw [List.drop_zero];exact List.take_of_length_le (by simp),by simp,?_⟩;conv=>whnf
 refine ⟨_,rfl,Nat.le_refl _,?_⟩;conv=>whnf
 refine ⟨by show (_+1)*40≤_;rw [List.length_map];omega,?_⟩;conv=>whnf
 repeat (refine gw rfl ?_;conv=>whnf)
 refine ⟨by rw [List.length_map];simp;omega,?_⟩;conv=>whnf
 repeat (refine gw rfl ?_;conv=>whnf)
 refine ⟨[(0,some 0),(1,some 1),(2,some 19)],[],?_,rfl⟩;rw [List.map_append,List.map_singleton,List.length_map,show dN (k,i,l)=D.agg [.int .i64 k,.int .i64 i,.list (l.map enI)] from rfl];((conv=>whnf);repeat (first | exact ⟨⟩ | (refine ⟨by first | rfl | (simp;done) | (simp;omega),?_⟩;conv=>whnf)))
 trace_state
theorem Tryz.addN (gs:List Gt) (k i:Int) (hg:gs.length≤1000000000000) :
  aH Tryz.prog 43 [0,1] [.ptr 0 0,.d (.int .i64 k),.d (.int .i64 i),.aG]
   [((0,3),.cell (.sl 1 3 0 gs.length)),((1,0),.arr 3 (gs.map dN))] [2] [.d (.int .i64 (gs.length:Nat))]
   [((0,3),.cell (.sl 2 3 0 (gs.length+1))),((2,0),.arr 3 ((gs++[(k,i,[])]).map dN))]:=by
 refine aH.of_wp hT (nt:=_) (c:=_) Tryz.func43 rfl rfl rfl rfl (by kernel_rfl) rfl rfl ?_;intro w0 ok0 wr β0;repeat (refine gw rfl ?_;conv=>whnf)
 refine ⟨rfl,?_⟩;conv=>whnf
 refine ⟨rfl,?_⟩;conv=>whnf
 refine ⟨rfl,?_⟩;conv=>whnf
 refine ⟨gs.map dN,by rw [List.drop_zero];exact List.take_of_length_le (by simp),by simp,?_⟩;conv=>whnf
 refine ⟨_,rfl,Nat.le_refl _,?_⟩;conv=>whnf
 refine ⟨by show (_+1)*40≤_;rw [List.length_map];omega,?_⟩;conv=>whnf
 repeat (refine gw rfl ?_;conv=>whnf)
 refine ⟨by rw [List.length_map];simp;omega,?_⟩;conv=>whnf
 repeat (refine gw rfl ?_;conv=>whnf)
 refine ⟨[(0,some 0),(1,some 1),(2,some 19)],[],?_,rfl⟩;rw [List.map_append,List.map_singleton,List.length_map,show dN (k,i,[])=D.agg [.int .i64 k,.int .i64 i,.list []] from rfl];((conv=>whnf);repeat (first | exact ⟨⟩ | (refine ⟨by first | rfl | (simp;done) | (simp;omega),?_⟩;conv=>whnf)))
 trace_state
end Go.Proofs.YtdonenoiehdahaaGreat
namespace Go.Own
def mX (c:UInt8):Bool:=((c.toNat:Int)==32)||((c.toNat:Int)==10)
def qU (c:UInt8):Bool:=((c.toNat:Int)==45)||((decide ((c.toNat:Int)≥48)&&decide ((c.toNat:Int)≤57))||((decide ((c.toNat:Int)≥97)&&decide ((c.toNat:Int)≤122))||(decide ((c.toNat:Int)≥65)&&decide ((c.toNat:Int)≤90))))
def dL (p:UInt8→Bool) (s:Str) (i:Nat):Nat:=i+((s.drop i).takeWhile p).length
theorem xK {p:UInt8→Bool} {s:Str} {i:Nat} (h:∀ hi:i<s.length,p s[i]=false):dL p s i=i:=by
 unfold dL;rcases Nat.lt_or_ge i s.length with hi | hi
 ·rw [List.drop_eq_getElem_cons hi,List.takeWhile_cons_of_neg (by simp [h hi])];simp
 ·rw [List.drop_eq_nil_of_le hi];simp
theorem Gw {p:UInt8→Bool} {s:Str} {i:Nat} (hi:i<s.length) (h:p s[i]=true):dL p s i=dL p s (i+1):=by
 unfold dL;rw [List.drop_eq_getElem_cons hi,List.takeWhile_cons_of_pos h];simp;omega
theorem oU (p:UInt8→Bool) (s:Str) {i:Nat} (hi:i≤s.length):i≤dL p s i∧dL p s i≤s.length:=by
 unfold dL;have h1:=List.Sublist.length_le (List.takeWhile_sublist p (l:=s.drop i));rw [List.length_drop] at h1;omega
def xG (s:Str) (i:Nat):Nat:=dL qU s (dL mX s i)
def BZ (s:Str) (i:Nat):Str:=(s.take (xG s i)).drop (dL mX s i)
def rC (s:Str) (i:Nat) (c:UInt8):Bool:=match s[dL mX s i]? with | some d=>(d.toNat:Int)==(c.toNat:Int) | none=>false
def kR (s:Str) (i:Nat) (c:UInt8):Nat:=match rC s i c with | true=>dL mX s i+1 | false=>dL mX s i
end Go.Own
namespace Go.Proofs.YtdonenoiehdahaaGreat
open Go Go.Abs Go.Own
attribute [local irreducible] WP
theorem Tryz.blank (s:Str) (a:Nat) (ha:a≤s.length) (hs:s.length≤1000000) :
  aH Tryz.prog 102 [0] [.ptr 0 0] [((0,0),.cell (.d (.str s))),((0,1),.cell (.d (.int .i64 a)))] [] [] [((0,0),.cell (.d (.str s))),((0,1),.cell (.d (.int .i64 (dL mX s a))))]:=by
 refine aH.of_wp hT (nt:=_) (c:=_) Tryz.func102 rfl rfl rfl rfl (by kernel_rfl) rfl rfl ?_;intro w0 ok0 wr β0;repeat (refine gw rfl ?_;conv=>whnf)
 refine WP.loop (α:=Nat) (fun i=>⟨[(0,.ptr 0 0)],[((0,0),some (.cell (.d (.str s)))),((0,1),some (.cell (.d (.int .i64 i))))],[0]⟩) (fun i=>i≤s.length∧dL mX s i=dL mX s a) (fun i=>s.length-i) a [(0,some 0)] [] ?_ ⟨ha,rfl⟩ ?_
 ·((conv=>whnf);repeat (first | exact ⟨⟩ | (refine ⟨by first | rfl | (simp;done) | (simp;omega),?_⟩;conv=>whnf)))
 ·rintro i ⟨hi,hsk⟩;repeat (refine gw rfl ?_;conv=>whnf)
  (split<;>rename_i hb<;>(try rw [hb])<;>(conv=>whnf))
  ·have hlt:i<s.length:=(by simpa using hb);clear hb;have hg:s[((i:Nat):Int).toNat]?=some s[i]:=(by simp [hlt]);have hy:=fun h=>Gw (p:=mX) hlt h
   have hno:mX s[i]=false→dL mX s i=i:=fun h=>xK fun _=>h
   have hbd:mX s[i]=(((s[i].toNat:Int)==32)||((s[i].toNat:Int)==10)):=rfl;generalize s[i]=c at hg hy hno hbd;refine ⟨by omega,c,hg,?_⟩;(conv=>whnf);cases h1:((c.toNat:Int)==32) with
   | true=>
     rw [h1,Bool.true_or] at hbd;(conv=>whnf);(repeat (refine gw rfl ?_;conv=>whnf));refine ⟨by omega,?_⟩;(conv=>whnf);refine ⟨rfl,?_⟩;(conv=>whnf);refine ⟨i+1,[(0,some 0)],[],?_,⟨by omega,by rw [← hy hbd,hsk]⟩,by omega⟩;((conv=>whnf);repeat (first | exact ⟨⟩ | (refine ⟨by first | rfl | (simp;done) | (simp;omega),?_⟩;conv=>whnf)))
   | false=>
     rw [h1,Bool.false_or] at hbd;(conv=>whnf);refine ⟨by omega,c,hg,?_⟩;(conv=>whnf);(repeat (refine gw rfl ?_;conv=>whnf));cases h2:((c.toNat:Int)==10) with
     | true=>
       rw [h2] at hbd;(conv=>whnf);(repeat (refine gw rfl ?_;conv=>whnf));refine ⟨by omega,?_⟩;(conv=>whnf);refine ⟨rfl,?_⟩;(conv=>whnf);refine ⟨i+1,[(0,some 0)],[],?_,⟨by omega,by rw [← hy hbd,hsk]⟩,by omega⟩;((conv=>whnf);repeat (first | exact ⟨⟩ | (refine ⟨by first | rfl | (simp;done) | (simp;omega),?_⟩;conv=>whnf)))
     | false=>
       rw [h2] at hbd;rw [hno hbd] at hsk;rw [← hsk];(conv=>whnf);(repeat (refine gw rfl ?_;conv=>whnf));refine ⟨[(0,some 0)],[],?_,rfl⟩;((conv=>whnf);repeat (first | exact ⟨⟩ | (refine ⟨by first | rfl | (simp;done) | (simp;omega),?_⟩;conv=>whnf)))
  ·have hie:i=s.length:=(by simp at hb;omega);subst hie;clear hb;rw [xK (fun h=>absurd h (Nat.lt_irrefl _))] at hsk;rw [← hsk];(conv=>whnf);(repeat (refine gw rfl ?_;conv=>whnf));refine ⟨[(0,some 0)],[],?_,rfl⟩;((conv=>whnf);repeat (first | exact ⟨⟩ | (refine ⟨by first | rfl | (simp;done) | (simp;omega),?_⟩;conv=>whnf)))
set_option maxHeartbeats 4000000 in
set_option maxRecDepth 10000 in
theorem Tryz.word (s:Str) (a:Nat) (ha:a≤s.length) (hs:s.length≤1000000) :
  aH Tryz.prog 67 [0] [.ptr 0 0] [((0,0),.cell (.d (.str s))),((0,1),.cell (.d (.int .i64 a)))] [] [.d (.str (BZ s a))] [((0,0),.cell (.d (.str s))),((0,1),.cell (.d (.int .i64 (xG s a))))]:=by
 refine aH.of_wp hT (nt:=_) (c:=_) Tryz.func67 rfl rfl rfl rfl (by kernel_rfl) rfl rfl ?_;intro w0 ok0 wr β0;repeat (refine gw rfl ?_;conv=>whnf)
 refine .inr ⟨_,_,_,_,_,_,Tryz.blank s a ha hs,[(0,0)],[],rfl,rfl,?_⟩;conv=>whnf
 refine ⟨rfl,rfl,?_⟩;conv=>whnf
 have hj:=oU mX s ha;generalize hje:dL mX s a=j at hj;have hE:xG s a=dL qU s j:=by unfold xG;rw [hje]
 have hW:BZ s a=(s.take (dL qU s j)).drop j:=by unfold BZ;rw [hE,hje]
 rw [hE,hW];repeat (refine gw rfl ?_;conv=>whnf)
 refine WP.loop (α:=Nat) (fun i=>⟨[(0,.ptr 0 0),(3,.d (.int .i64 j))],[((0,0),some (.cell (.d (.str s)))),((0,1),some (.cell (.d (.int .i64 i))))],[0]⟩) (fun i=>j≤i∧i≤s.length∧dL qU s i=dL qU s j) (fun i=>s.length-i) j [(0,some 0)] [] ?_ ⟨Nat.le_refl _,hj.2,rfl⟩ ?_
 ·((conv=>whnf);repeat (first | exact ⟨⟩ | (refine ⟨by first | rfl | (simp;done) | (simp;omega),?_⟩;conv=>whnf)))
 ·rintro i ⟨hij,hi,hsk⟩;have hend:∀ e,dL qU s i=e→dL qU s j=e:=fun e h=>hsk ▸ h
  repeat (refine gw rfl ?_;conv=>whnf)
  (split<;>rename_i hb<;>(try rw [hb])<;>(conv=>whnf))
  ·have hlt:i<s.length:=(by simpa using hb);clear hb;have hg:s[((i:Nat):Int).toNat]?=some s[i]:=(by simp [hlt]);have hy:=fun h=>Gw (p:=qU) hlt h
   have hno:qU s[i]=false→dL qU s i=i:=fun h=>xK fun _=>h
   generalize s[i]=c at hg hy hno;have hc:(c.toNat:Int)<45∨(c.toNat:Int)=45∨(46≤(c.toNat:Int)∧(c.toNat:Int)≤47)∨(48≤(c.toNat:Int)∧(c.toNat:Int)≤57)∨(58≤(c.toNat:Int)∧(c.toNat:Int)≤64)∨(65≤(c.toNat:Int)∧(c.toNat:Int)≤90)∨(91≤(c.toNat:Int)∧(c.toNat:Int)≤96)∨(97≤(c.toNat:Int)∧(c.toNat:Int)≤122)∨123≤(c.toNat:Int):=(by omega);refine ⟨by omega,c,hg,?_⟩;(conv=>whnf);rcases hc with hc | hc | hc | hc | hc | hc | hc | hc | hc
   all_goals repeat first | ((refine ⟨by omega,c,hg,?_⟩);(conv=>whnf)) | ((first | rw [show decide ((c.toNat:Int)≥48)=true from decide_eq_true (by omega)] | rw [show decide ((c.toNat:Int)≥48)=false from decide_eq_false (by omega)] | rw [show decide ((c.toNat:Int)≤57)=true from decide_eq_true (by omega)] | rw [show decide ((c.toNat:Int)≤57)=false from decide_eq_false (by omega)] | rw [show decide ((c.toNat:Int)≥97)=true from decide_eq_true (by omega)] | rw [show decide ((c.toNat:Int)≥97)=false from decide_eq_false (by omega)] | rw [show decide ((c.toNat:Int)≤122)=true from decide_eq_true (by omega)] | rw [show decide ((c.toNat:Int)≤122)=false from decide_eq_false (by omega)] | rw [show decide ((c.toNat:Int)≥65)=true from decide_eq_true (by omega)] | rw [show decide ((c.toNat:Int)≥65)=false from decide_eq_false (by omega)] | rw [show decide ((c.toNat:Int)≤90)=true from decide_eq_true (by omega)] | rw [show decide ((c.toNat:Int)≤90)=false from decide_eq_false (by omega)] | rw [show ((c.toNat:Int)==45)=true from beq_iff_eq.2 (by omega)] | rw [show ((c.toNat:Int)==45)=false from beq_eq_false_iff_ne.2 (by omega)]);(conv=>whnf))
   all_goals repeat (refine gw rfl ?_;conv=>whnf)
   all_goals try
    have hw:qU c=true:=by
     unfold qU;simp;omega
    refine ⟨by omega,?_⟩;(conv=>whnf);refine ⟨rfl,?_⟩;(conv=>whnf);refine ⟨i+1,[(0,some 0)],[],?_,⟨by omega,by omega,by rw [← hy hw,hsk]⟩,by omega⟩;((conv=>whnf);repeat (first | exact ⟨⟩ | (refine ⟨by first | rfl | (simp;done) | (simp;omega),?_⟩;conv=>whnf)))
   all_goals
    have hw:qU c=false:=by
     unfold qU;simp;omega
    have hsk2:dL qU s j=i:=(by rw [← hsk,hno hw]);refine ⟨rfl,⟨by show (0:Int)≤((j:Nat):Int);omega,by show ((j:Nat):Int)≤((i:Nat):Int);omega,by show ((i:Nat):Int)≤_;omega⟩,?_⟩;(conv=>whnf);(repeat (refine gw rfl ?_;conv=>whnf));rw [hsk2];refine ⟨[(0,some 0)],[],?_,rfl⟩;((conv=>whnf);repeat (first | exact ⟨⟩ | (refine ⟨by first | rfl | (simp;done) | (simp;omega),?_⟩;conv=>whnf)))
  ·have hie:i=s.length:=(by simp at hb;omega);have hsk2:dL qU s j=i:=by rw [← hsk];exact xK fun h=>absurd h (by omega)
   clear hb;(conv=>whnf);(repeat (refine gw rfl ?_;conv=>whnf));refine ⟨rfl,⟨by show (0:Int)≤((j:Nat):Int);omega,by show ((j:Nat):Int)≤((i:Nat):Int);omega,by show ((i:Nat):Int)≤_;omega⟩,?_⟩;(conv=>whnf);(repeat (refine gw rfl ?_;conv=>whnf));rw [hsk2];refine ⟨[(0,some 0)],[],?_,rfl⟩;((conv=>whnf);repeat (first | exact ⟨⟩ | (refine ⟨by first | rfl | (simp;done) | (simp;omega),?_⟩;conv=>whnf)))
end Go.Proofs.YtdonenoiehdahaaGreat
