/- Walks: bytes, names, numbers. -/
import Derived.Test.YtbhfbliodeagmaaGreatDoorOwnTAnd
import Derived.Test.YtbhfbliodeagmaaGreatDoorTmMAnd
import Derived.WalkKit
import Derived.Lib.Bytealg
import Derived.Test.YtbhfbliodeagmaaGreatDoorORunBOne
import Derived.SizedLaws
set_option linter.all false
namespace Go.Proofs.YtbhfbliodeagmaaGreatDoor
open Go Go.Abs Go.Own
attribute [local irreducible] WP
def enC (c:UInt8):D := .int .u8 c.toNat
theorem Tryz.lower (c:UInt8):Pure Tryz.prog 173 [enC c] [.bool (XK c)]:=by
 refine Pure.of_wp hT (nt:=_) (c:=_) Tryz.func173 rfl rfl rfl rfl (by kernel_rfl) ?_
 intro w0 ok0 β0
 repeat (refine gw rfl ?_;conv=>whnf)
 (split<;>rename_i hb<;>(try rw [hb])<;>(conv=>whnf))<;>repeat (refine gw rfl ?_;conv=>whnf)<;>(simp [XK,rng] at hb ⊢<;>omega)
theorem Tryz.upper (c:UInt8):Pure Tryz.prog 172 [enC c] [.bool (yB c)]:=by
 refine Pure.of_wp hT (nt:=_) (c:=_) Tryz.func172 rfl rfl rfl rfl (by kernel_rfl) ?_
 intro w0 ok0 β0
 repeat (refine gw rfl ?_;conv=>whnf)
 (split<;>rename_i hb<;>(try rw [hb])<;>(conv=>whnf))<;>repeat (refine gw rfl ?_;conv=>whnf)<;>(simp [yB,rng] at hb ⊢<;>omega)
theorem Tryz.digit (c:UInt8):Pure Tryz.prog 174 [enC c] [.bool (ru c)]:=by
 refine Pure.of_wp hT (nt:=_) (c:=_) Tryz.func174 rfl rfl rfl rfl (by kernel_rfl) ?_
 intro w0 ok0 β0
 repeat (refine gw rfl ?_;conv=>whnf)
 (split<;>rename_i hb<;>(try rw [hb])<;>(conv=>whnf))<;>repeat (refine gw rfl ?_;conv=>whnf)<;>(simp [ru,rng] at hb ⊢<;>omega)
theorem jw {s:Str} {i:Nat} (h:i<s.length):s[((i:Int)).toNat]?=some s[i]:=by simp [h]
theorem yh {s:Str} {p:UInt8→Bool} {i:Nat} (h:i<s.length) (ht:(s.take i).all p=true) (hp:p s[i]=true):(s.take (i+1)).all p=true:=by
 rw [List.take_succ_eq_append_getElem h,List.all_append,ht];simp [hp]
theorem yu {s:Str} {p:UInt8→Bool} {i:Nat} (h:i<s.length) (hp:p s[i]=false):s.all p=false:=by
 rw [List.all_eq_false];exact ⟨_,List.getElem_mem h,by simp [hp]⟩
theorem RG {s:Str} (h:decide ((s.length:Int)<1)=true):tJ s=false:=by
 simp at h;simp only [tJ];rw [decide_eq_false (by omega)];rfl
theorem RF {s:Str} (h:decide ((s.length:Int)>16)=true):tJ s=false:=by
 simp only [decide_eq_true_eq] at h;simp only [tJ];rw [decide_eq_false (p:=s.length≤16) (by omega)];simp
theorem XU {s:Str} (h:decide ((s.length:Int)<1)=false) (h':decide ((s.length:Int)>16)=false):tJ s=true:=by
 simp only [decide_eq_false_iff_not] at h h';simp only [tJ];rw [decide_eq_true (by omega),decide_eq_true (by omega)];rfl
theorem wrap_u8 {n:Int} (h:0≤n) (h':n<256):IntKind.u8.wrap n=n:=by
 unfold IntKind.wrap
 simp [IntKind.bits,IntKind.signed]
 omega
theorem Lj {s:Str} (h:1≤s.length):∃ c t,s=c::t:=by
 cases s with
 | nil=>simp at h
 | cons c t=>exact ⟨c,t,rfl⟩
theorem CU {s:Str} {i:Nat} (h:i<s.length):numAt 0 (s.take (i+1))=10*numAt 0 (s.take i)+((s[i].toNat:Int)-48):=by
 rw [List.take_succ_eq_append_getElem h,CS]
theorem rY {s:Str} {i:Nat} (hs:s.length≤4) (hd:(s.take i).all ru=true):0≤numAt 0 (s.take i)∧numAt 0 (s.take i)≤9999:=zL (by simp;omega) hd
theorem Tryz.LY (s:Str):Pure Tryz.prog 114 [.str s] [.int .i64 (lX s),.bool (iU s)]:=by
 refine Pure.of_wp hT (nt:=_) (c:=_) Tryz.func114 rfl rfl rfl rfl (by kernel_rfl) ?_
 intro w0 ok0 β0
 have no:iU s=false→[D.int .i64 0,.bool false]=[D.int .i64 (lX s),.bool (iU s)]:=fun h=>by unfold lX;rw [h];rfl
 have yes:iU s=true→[D.int .i64 (numAt 0 s),.bool true]=[D.int .i64 (lX s),.bool (iU s)]:=fun h=>by unfold lX;rw [h];rfl
 repeat (refine gw rfl ?_;conv=>whnf)
 (split<;>rename_i hb<;>(try rw [hb])<;>(conv=>whnf))
 ·repeat (refine gw rfl ?_;conv=>whnf)
  exact no (kG (.inl (by simp only [decide_eq_true_eq] at hb;omega)))
 (split<;>rename_i hb<;>(try rw [hb])<;>(conv=>whnf))
 ·repeat (refine gw rfl ?_;conv=>whnf)
  exact no (kG (.inr (.inl (by simp only [decide_eq_true_eq] at hb;omega))))
 rename_i _ h1 _
 have hl1:1≤s.length:=by simp only [decide_eq_false_iff_not] at h1;omega
 have hl4:s.length≤4:=by simp only [decide_eq_false_iff_not] at hb;omega
 clear h1 hb
 obtain ⟨c,t,hs⟩:=Lj hl1
 by_cases h3:headB (fun c=>decide ((c.toNat:Int)=48)) s=true∧1<s.length
 ·rw [decide_eq_true (p:=(s.length:Int)>1) (by omega)]
  conv=>whnf
  refine ⟨by omega,c,by rw [hs];rfl,?_⟩
  conv=>whnf
  rw [show ((c.toNat:Int)==48)=true by have:=h3.1;rw [hs] at this;simpa [headB] using this]
  conv=>whnf
  repeat (refine gw rfl ?_;conv=>whnf)
  exact no (kG (.inr (.inr (.inl h3))))
 (split<;>rename_i hb<;>(try rw [hb])<;>(conv=>whnf))<;>first
  | (refine ⟨by omega,c,by rw [hs];rfl,?_⟩
     conv=>whnf
     rw [show ((c.toNat:Int)==48)=false by
      simp only [decide_eq_true_eq] at hb
      have h4:¬ headB (fun c=>decide ((c.toNat:Int)=48)) s=true:=fun h=>h3 ⟨h,by omega⟩
      rw [hs] at h4;simpa [headB] using h4]
     conv=>whnf)
  | skip
 all_goals
  repeat (refine gw rfl ?_;conv=>whnf)
  refine WP.loop (α:=Nat) (fun i=>⟨[(0,.d (.str s)),(4,.d (.int .i64 (numAt 0 (s.take i)))),(25,.d (.int .i64 s.length)),(26,.d (.int .i64 i))],[],[]⟩) (fun i=>i≤s.length∧(s.take i).all ru=true) (fun i=>s.length-i) 0 [] [] ?_ ?_ ?_
  ·((conv=>whnf);repeat (first | exact ⟨⟩ | (refine ⟨by first | rfl | (simp;done) | (simp;omega),?_⟩;conv=>whnf)))
  ·simp
  ·rintro i ⟨hi,ht⟩
   repeat (refine gw rfl ?_;conv=>whnf)
   (split<;>rename_i hb<;>(try rw [hb])<;>(conv=>whnf))
   ·have hlt:i<s.length:=by simp only [decide_eq_true_eq] at hb;omega
    clear hb
    repeat (refine gw rfl ?_;conv=>whnf)
    refine ⟨by omega,_,jw hlt,?_⟩
    conv=>whnf
    refine .inl ⟨_,Tryz.digit s[i],.inl rfl,?_⟩
    conv=>whnf
    cases h1:ru s[i] with
    | true=>
      obtain ⟨d1,d2⟩:=xX.1 h1
      obtain ⟨n1,n2⟩:=rY hl4 ht
      have ht':=yh hlt ht h1
      obtain ⟨n3,n4⟩:=rY hl4 ht'
      have hn:=CU hlt
      conv=>whnf
      repeat (refine gw rfl ?_;conv=>whnf)
      refine ⟨by omega,?_⟩
      conv=>whnf
      refine ⟨by omega,_,jw hlt,?_⟩
      conv=>whnf
      rw [wrap_u8 (by omega) (by omega)]
      refine ⟨by omega,?_⟩
      conv=>whnf
      refine ⟨by omega,?_⟩
      conv=>whnf
      repeat (refine gw rfl ?_;conv=>whnf)
      refine ⟨by omega,?_⟩
      conv=>whnf
      refine ⟨i+1,[],[],?_,⟨by omega,ht'⟩,by omega⟩
      rw [hn]
      ((conv=>whnf);repeat (first | exact ⟨⟩ | (refine ⟨by first | rfl | (simp;done) | (simp;omega),?_⟩;conv=>whnf)))
    | false=>
      conv=>whnf
      repeat (refine gw rfl ?_;conv=>whnf)
      exact no (kG (.inr (.inr (.inr (yu hlt h1)))))
   ·have:i=s.length:=by simp only [decide_eq_false_iff_not] at hb;omega
    subst this
    rw [List.take_length] at ht
    rw [List.take_length]
    repeat (refine gw rfl ?_;conv=>whnf)
    exact yes (Rq hl1 hl4 h3 ht)
theorem Tryz.X8 (s:Str):Pure Tryz.prog 112 [.str s] [.bool (iU s)]:=by
 refine Pure.of_wp hT (nt:=_) (c:=_) Tryz.func112 rfl rfl rfl rfl (by kernel_rfl) ?_
 intro w0 ok0 β0
 repeat (refine gw rfl ?_;conv=>whnf)
 refine .inl ⟨_,Tryz.LY s,.inl rfl,?_⟩
 conv=>whnf
 repeat (refine gw rfl ?_;conv=>whnf)
theorem Tryz.Qi (s:Str):Pure Tryz.prog 62 [.str s] [.int .i64 (lX s)]:=by
 refine Pure.of_wp hT (nt:=_) (c:=_) Tryz.func62 rfl rfl rfl rfl (by kernel_rfl) ?_
 intro w0 ok0 β0
 repeat (refine gw rfl ?_;conv=>whnf)
 refine .inl ⟨_,Tryz.LY s,.inl rfl,?_⟩
 conv=>whnf
 repeat (refine gw rfl ?_;conv=>whnf)
theorem Tryz.Oe (s:Str):Pure Tryz.prog 113 [.str s] [.bool (Bo s)]:=by
 refine Pure.of_wp hT (nt:=_) (c:=_) Tryz.func113 rfl rfl rfl rfl (by kernel_rfl) ?_
 intro w0 ok0 β0
 repeat (refine gw rfl ?_;conv=>whnf)
 (split<;>rename_i hb<;>(try rw [hb])<;>(conv=>whnf))
 ·repeat (refine gw rfl ?_;conv=>whnf)
  rw [Il (.inl (RG hb))]
 (split<;>rename_i hb<;>(try rw [hb])<;>(conv=>whnf))
 ·repeat (refine gw rfl ?_;conv=>whnf)
  rw [Il (.inl (RF hb))]
 have hlen:=XU (by assumption) hb
 clear hb
 cases s with
 | nil=>simp [tJ] at hlen
 | cons c s=>
 refine ⟨by omega,c,rfl,?_⟩
 conv=>whnf
 refine .inl ⟨_,Tryz.upper c,.inl rfl,?_⟩
 conv=>whnf
 cases hc:yB c with
 | false=>
   conv=>whnf
   repeat (refine gw rfl ?_;conv=>whnf)
   rw [Il (.inr (.inl (show headB yB (c::s)=false from hc)))]
 | true=>
 conv=>whnf
 have hh:headB yB (c::s)=true:=hc
 generalize c::s=s at *
 have hl16:s.length≤16:=by simp [tJ] at hlen;omega
 repeat (refine gw rfl ?_;conv=>whnf)
 refine WP.loop (α:=Nat) (fun i=>⟨[(0,.d (.str s)),(19,.d (.int .i64 s.length)),(20,.d (.int .i64 i))],[],[]⟩) (fun i=>i≤s.length∧(s.take i).all Bl=true) (fun i=>s.length-i) 0 [] [] ?_ ?_ ?_
 ·((conv=>whnf);repeat (first | exact ⟨⟩ | (refine ⟨by first | rfl | (simp;done) | (simp;omega),?_⟩;conv=>whnf)))
 ·simp
 ·rintro i ⟨hi,ht⟩
  repeat (refine gw rfl ?_;conv=>whnf)
  (split<;>rename_i hb<;>(try rw [hb])<;>(conv=>whnf))
  ·have hlt:i<s.length:=by simpa using hb
   clear hb
   repeat (refine gw rfl ?_;conv=>whnf)
   refine ⟨by omega,_,jw hlt,?_⟩
   conv=>whnf
   refine .inl ⟨_,Tryz.lower s[i],.inl rfl,?_⟩
   conv=>whnf
   have fin:Bl s[i]=true→_:=fun hn=>yh hlt ht hn
   cases h1:XK s[i] with
   | true=>
     conv=>whnf
     repeat (refine gw rfl ?_;conv=>whnf)
     refine ⟨by omega,?_⟩
     conv=>whnf
     refine ⟨i+1,[],[],?_,⟨by omega,fin (by simp [Bl,h1])⟩,by omega⟩
     ((conv=>whnf);repeat (first | exact ⟨⟩ | (refine ⟨by first | rfl | (simp;done) | (simp;omega),?_⟩;conv=>whnf)))
   | false=>
     conv=>whnf
     refine ⟨by omega,_,jw hlt,?_⟩
     conv=>whnf
     refine .inl ⟨_,Tryz.upper s[i],.inl rfl,?_⟩
     conv=>whnf
     cases h2:yB s[i] with
     | true=>
       conv=>whnf
       repeat (refine gw rfl ?_;conv=>whnf)
       refine ⟨by omega,?_⟩
       conv=>whnf
       refine ⟨i+1,[],[],?_,⟨by omega,fin (by simp [Bl,h2])⟩,by omega⟩
       ((conv=>whnf);repeat (first | exact ⟨⟩ | (refine ⟨by first | rfl | (simp;done) | (simp;omega),?_⟩;conv=>whnf)))
     | false=>
       conv=>whnf
       refine ⟨by omega,_,jw hlt,?_⟩
       conv=>whnf
       refine .inl ⟨_,Tryz.digit s[i],.inl rfl,?_⟩
       conv=>whnf
       cases h3:ru s[i] with
       | true=>
         conv=>whnf
         repeat (refine gw rfl ?_;conv=>whnf)
         refine ⟨by omega,?_⟩
         conv=>whnf
         refine ⟨i+1,[],[],?_,⟨by omega,fin (by simp [Bl,h3])⟩,by omega⟩
         ((conv=>whnf);repeat (first | exact ⟨⟩ | (refine ⟨by first | rfl | (simp;done) | (simp;omega),?_⟩;conv=>whnf)))
       | false=>
         conv=>whnf
         repeat (refine gw rfl ?_;conv=>whnf)
         rw [Il (.inr (.inr (yu hlt (by simp [Bl,h1,h2,h3]))))]
  ·have:i=s.length:=by simp at hb;omega
   subst this
   rw [List.take_length] at ht
   repeat (refine gw rfl ?_;conv=>whnf)
   rw [ahs hlen hh ht]
abbrev Sp:=Int×Int
def alT (p:Sp):D := .agg [.int .u8 p.1,.int .u8 p.2]
def lY (c:UInt8) (l:List Sp):Bool:=l.any fun p=>rng p.1 p.2 c
theorem Tryz.inC (c:UInt8) (l:List Sp) (hl:l.length≤1000000):Pure Tryz.prog 241 [enC c,.list (l.map alT)] [.bool (lY c l)]:=by
 refine Pure.of_wp hT (nt:=_) (c:=_) Tryz.func241 rfl rfl rfl rfl (by kernel_rfl) ?_
 intro w0 ok0 β0
 repeat (refine gw rfl ?_;conv=>whnf)
 refine WP.loop (α:=Nat) (fun i=>⟨[(0,.d (enC c)),(7,.d (.list (l.map alT))),(8,.d (.int .i64 l.length)),(9,.d (.int .i64 i))],[],[]⟩) (fun i=>i≤l.length∧lY c (l.take i)=false) (fun i=>l.length-i) 0 [] [] ?_ ?_ ?_
 ·((conv=>whnf);repeat (first | exact ⟨⟩ | (refine ⟨by first | rfl | (simp;done) | (simp;omega),?_⟩;conv=>whnf)))
 ·simp [lY]
 ·rintro i ⟨hi,ht⟩
  repeat (refine gw rfl ?_;conv=>whnf)
  (split<;>rename_i hb<;>(try rw [hb])<;>(conv=>whnf))
  ·have hlt:i<l.length:=by simpa using hb
   clear hb
   have hn:lY c (l.take (i+1))=rng l[i].1 l[i].2 c:=by
    unfold lY at ht ⊢
    rw [List.take_succ_eq_append_getElem hlt,List.any_append,ht];simp
   repeat (refine gw rfl ?_;conv=>whnf)
   refine ⟨by omega,_,Jo hlt,rfl,?_⟩
   conv=>whnf
   repeat (refine gw rfl ?_;conv=>whnf)
   cases hc:rng l[i].1 l[i].2 c with
   | true=>
     have hc':=hc
     simp only [rng,Bool.and_eq_true,decide_eq_true_eq] at hc'
     rw [decide_eq_true (p:=(c.toNat:Int)≥l[i].1) hc'.1]
     conv=>whnf
     rw [decide_eq_true (p:=(c.toNat:Int)≤l[i].2) hc'.2]
     conv=>whnf
     repeat (refine gw rfl ?_;conv=>whnf)
     have:lY c l=true:=by
      unfold lY;rw [List.any_eq_true];exact ⟨_,List.getElem_mem hlt,hc⟩
     rw [this]
   | false=>
     rw [hc] at hn
     (split<;>rename_i hb<;>(try rw [hb])<;>(conv=>whnf))
     ·have:decide ((c.toNat:Int)≤l[i].2)=false:=by
       unfold rng at hc
       rw [show decide (l[i].1≤(c.toNat:Int))=true from hb] at hc
       simpa using hc
      rw [this]
      conv=>whnf
      repeat (refine gw rfl ?_;conv=>whnf)
      refine ⟨by omega,?_⟩
      conv=>whnf
      refine ⟨i+1,[],[],?_,⟨by omega,hn⟩,by omega⟩
      ((conv=>whnf);repeat (first | exact ⟨⟩ | (refine ⟨by first | rfl | (simp;done) | (simp;omega),?_⟩;conv=>whnf)))
     ·repeat (refine gw rfl ?_;conv=>whnf)
      refine ⟨by omega,?_⟩
      conv=>whnf
      refine ⟨i+1,[],[],?_,⟨by omega,hn⟩,by omega⟩
      ((conv=>whnf);repeat (first | exact ⟨⟩ | (refine ⟨by first | rfl | (simp;done) | (simp;omega),?_⟩;conv=>whnf)))
  ·have:i=l.length:=by simp at hb;omega
   subst this
   rw [List.take_length] at ht
   repeat (refine gw rfl ?_;conv=>whnf)
   rw [ht]
def ahA (a b c:Sp):D := .agg [.int .u8 a.1,.int .u8 a.2,.int .u8 b.1,.int .u8 b.2,.int .u8 c.1,.int .u8 c.2]
def spB (x y z:Sp) (s:Str):Bool:=tJ s&&headB (fun c=>lY c [x]) s&&s.all (fun c=>lY c [x,y,z])
theorem Qm {x y z:Sp} {s:Str} (h:tJ s=false∨headB (fun c=>lY c [x]) s=false∨s.all (fun c=>lY c [x,y,z])=false):spB x y z s=false:=by
 unfold spB
 rcases h with h | h | h<;>(rw [h];simp)
theorem akt {x y z:Sp} {s:Str} (h1:tJ s=true) (h2:headB (fun c=>lY c [x]) s=true) (h3:s.all (fun c=>lY c [x,y,z])=true):spB x y z s=true:=by
 unfold spB;rw [h1,h2,h3];rfl
theorem Tryz.spelled (s:Str) (x y z:Sp):Pure Tryz.prog 170 [.str s,ahA x y z] [.bool (spB x y z s)]:=by
 refine Pure.of_wp hT (nt:=_) (c:=_) Tryz.func170 rfl rfl rfl rfl (by kernel_rfl) ?_
 intro w0 ok0 β0
 repeat (refine gw rfl ?_;conv=>whnf)
 (split<;>rename_i hb<;>(try rw [hb])<;>(conv=>whnf))
 ·repeat (refine gw rfl ?_;conv=>whnf)
  rw [Qm (.inl (RG hb))]
 (split<;>rename_i hb<;>(try rw [hb])<;>(conv=>whnf))
 ·repeat (refine gw rfl ?_;conv=>whnf)
  rw [Qm (.inl (RF hb))]
 have hlen:=XU (by assumption) hb
 clear hb
 cases s with
 | nil=>simp [tJ] at hlen
 | cons c s=>
 refine ⟨by omega,c,rfl,?_⟩
 conv=>whnf
 refine ⟨⟨rfl,by decide,by decide,by decide⟩,?_⟩
 conv=>whnf
 refine .inl ⟨_,Tryz.inC c [x] (by simp),.inl rfl,?_⟩
 conv=>whnf
 cases hc:lY c [x] with
 | false=>
   conv=>whnf
   repeat (refine gw rfl ?_;conv=>whnf)
   rw [Qm (.inr (.inl (show headB (fun c=>lY c [x]) (c::s)=false from hc)))]
 | true=>
 conv=>whnf
 have hh:headB (fun c=>lY c [x]) (c::s)=true:=hc
 generalize c::s=s at *
 have hl16:s.length≤16:=by simp [tJ] at hlen;omega
 repeat (refine gw rfl ?_;conv=>whnf)
 refine WP.loop (α:=Nat) (fun i=>⟨[(0,.d (.str s)),(3,.d (.ref [.int .u8 x.1,.int .u8 x.2,.int .u8 y.1,.int .u8 y.2,.int .u8 z.1,.int .u8 z.2] 0)),(5,.d (.int .i64 i))],[],[]⟩) (fun i=>i≤s.length∧(s.take i).all (fun c=>lY c [x,y,z])=true) (fun i=>s.length-i) 0 [] [] ?_ ?_ ?_
 ·((conv=>whnf);repeat (first | exact ⟨⟩ | (refine ⟨by first | rfl | (simp;done) | (simp;omega),?_⟩;conv=>whnf)))
 ·simp
 ·rintro i ⟨hi,ht⟩
  repeat (refine gw rfl ?_;conv=>whnf)
  (split<;>rename_i hb<;>(try rw [hb])<;>(conv=>whnf))
  ·have hlt:i<s.length:=by simpa using hb
   clear hb
   repeat (refine gw rfl ?_;conv=>whnf)
   refine ⟨by omega,_,jw hlt,?_⟩
   conv=>whnf
   refine ⟨⟨rfl,by decide,by decide,by decide⟩,?_⟩
   conv=>whnf
   refine .inl ⟨_,Tryz.inC s[i] [x,y,z] (by simp),.inl rfl,?_⟩
   conv=>whnf
   cases h1:lY s[i] [x,y,z] with
   | true=>
     conv=>whnf
     repeat (refine gw rfl ?_;conv=>whnf)
     refine ⟨by omega,?_⟩
     conv=>whnf
     refine ⟨i+1,[],[],?_,⟨by omega,yh hlt ht h1⟩,by omega⟩
     ((conv=>whnf);repeat (first | exact ⟨⟩ | (refine ⟨by first | rfl | (simp;done) | (simp;omega),?_⟩;conv=>whnf)))
   | false=>
     conv=>whnf
     repeat (refine gw rfl ?_;conv=>whnf)
     rw [Qm (.inr (.inr (yu hlt h1)))]
  ·have:i=s.length:=by simp at hb;omega
   subst this
   rw [List.take_length] at ht
   repeat (refine gw rfl ?_;conv=>whnf)
   rw [akt hlen hh ht]
theorem ahB (s:Str):spB (65,90) (97,122) (48,57) s=Bo s:=by
 have h1:(fun c=>lY c [(65,90)])=yB:=by funext c;simp [lY,yB]
 have h2:(fun c=>lY c [(65,90),(97,122),(48,57)])=Bl:=by funext c;simp [lY,Bl,XK,ru,yB]
 unfold spB Bo;rw [h1,h2]
theorem Tryz.variable (s:Str):Pure Tryz.prog 110 [.str s] [.bool (Bo s)]:=by
 refine Pure.of_wp hT (nt:=_) (c:=_) Tryz.func110 rfl rfl rfl rfl (by kernel_rfl) ?_
 intro w0 ok0 β0
 repeat (refine gw rfl ?_;conv=>whnf)
 (repeat (refine ⟨by first | rfl | omega,?_⟩;conv=>whnf))
 refine .inl ⟨_,Tryz.spelled s (65,90) (97,122) (48,57),.inl rfl,?_⟩
 conv=>whnf
 repeat (refine gw rfl ?_;conv=>whnf)
 rw [ahB]
theorem Tryz.number (s:Str):Pure Tryz.prog 109 [.str s] [.int .i64 (lX s),.bool (iU s)]:=by
 refine Pure.of_wp hT (nt:=_) (c:=_) Tryz.func109 rfl rfl rfl rfl (by kernel_rfl) ?_
 intro w0 ok0 β0
 have no:iU s=false→[D.int .i64 0,.bool false]=[D.int .i64 (lX s),.bool (iU s)]:=fun h=>by unfold lX;rw [h];rfl
 have yes:iU s=true→numAt 0 s≤9999→[D.int .i64 (numAt 0 s),.bool (decide (numAt 0 s≤9999))]=[D.int .i64 (lX s),.bool (iU s)]:=fun h h'=>by unfold lX;rw [h,decide_eq_true h'];rfl
 repeat (refine gw rfl ?_;conv=>whnf)
 (split<;>rename_i hb<;>(try rw [hb])<;>(conv=>whnf))
 ·repeat (refine gw rfl ?_;conv=>whnf)
  exact no (kG (.inl (by simp only [decide_eq_true_eq] at hb;omega)))
 (split<;>rename_i hb<;>(try rw [hb])<;>(conv=>whnf))
 ·repeat (refine gw rfl ?_;conv=>whnf)
  exact no (kG (.inr (.inl (by simp only [decide_eq_true_eq] at hb;omega))))
 rename_i _ h1 _
 have hl1:1≤s.length:=by simp only [decide_eq_false_iff_not] at h1;omega
 have hl4:s.length≤4:=by simp only [decide_eq_false_iff_not] at hb;omega
 clear h1 hb
 obtain ⟨c,t,hs⟩:=Lj hl1
 refine ⟨by omega,c,by rw [hs];rfl,?_⟩
 conv=>whnf
 by_cases h3:headB (fun c=>decide ((c.toNat:Int)=48)) s=true∧1<s.length
 ·rw [show ((c.toNat:Int)==48)=true by have:=h3.1;rw [hs] at this;simpa [headB] using this]
  conv=>whnf
  rw [decide_eq_true (p:=(s.length:Int)>1) (by omega)]
  conv=>whnf
  repeat (refine gw rfl ?_;conv=>whnf)
  exact no (kG (.inr (.inr (.inl h3))))
 (split<;>rename_i hb<;>(try rw [hb])<;>(conv=>whnf))<;>first
  | (rw [decide_eq_false (p:=(s.length:Int)>1) (fun h=>h3 ⟨by rw [hs];simpa [headB] using hb,by omega⟩)]
     conv=>whnf)
  | skip
 all_goals
  repeat (refine gw rfl ?_;conv=>whnf)
  refine WP.loop (α:=Nat) (fun i=>⟨[(0,.d (.str s)),(4,.d (.int .i64 (numAt 0 (s.take i)))),(5,.d (.int .i64 i))],[],[]⟩) (fun i=>i≤s.length∧(s.take i).all ru=true) (fun i=>s.length-i) 0 [] [] ?_ ?_ ?_
  ·((conv=>whnf);repeat (first | exact ⟨⟩ | (refine ⟨by first | rfl | (simp;done) | (simp;omega),?_⟩;conv=>whnf)))
  ·simp
  ·rintro i ⟨hi,ht⟩
   repeat (refine gw rfl ?_;conv=>whnf)
   (split<;>rename_i hb<;>(try rw [hb])<;>(conv=>whnf))
   ·have hlt:i<s.length:=by simp only [decide_eq_true_eq] at hb;omega
    clear hb
    repeat (refine gw rfl ?_;conv=>whnf)
    refine ⟨by omega,_,jw hlt,?_⟩
    conv=>whnf
    cases h1:ru s[i] with
    | true=>
      obtain ⟨d1,d2⟩:=xX.1 h1
      obtain ⟨n1,n2⟩:=rY hl4 ht
      have ht':=yh hlt ht h1
      obtain ⟨n3,n4⟩:=rY hl4 ht'
      have hn:=CU hlt
      rw [decide_eq_false (p:=(s[i].toNat:Int)<48) (by omega)]
      conv=>whnf
      refine ⟨by omega,_,jw hlt,?_⟩
      conv=>whnf
      rw [decide_eq_false (p:=(s[i].toNat:Int)>57) (by omega)]
      conv=>whnf
      repeat (refine gw rfl ?_;conv=>whnf)
      refine ⟨by omega,?_⟩
      conv=>whnf
      refine ⟨by omega,_,jw hlt,?_⟩
      conv=>whnf
      rw [wrap_u8 (by omega) (by omega)]
      refine ⟨by omega,?_⟩
      conv=>whnf
      refine ⟨by omega,?_⟩
      conv=>whnf
      repeat (refine gw rfl ?_;conv=>whnf)
      refine ⟨by omega,?_⟩
      conv=>whnf
      refine ⟨i+1,[],[],?_,⟨by omega,ht'⟩,by omega⟩
      rw [hn]
      ((conv=>whnf);repeat (first | exact ⟨⟩ | (refine ⟨by first | rfl | (simp;done) | (simp;omega),?_⟩;conv=>whnf)))
    | false=>
      have h2:(s[i].toNat:Int)<48∨(s[i].toNat:Int)>57:=by
       have:¬ (48≤(s[i].toNat:Int)∧(s[i].toNat:Int)≤57):=fun h=>by rw [xX.2 h] at h1;cases h1
       omega
      by_cases h5:(s[i].toNat:Int)<48
      ·rw [decide_eq_true (p:=(s[i].toNat:Int)<48) h5]
       conv=>whnf
       repeat (refine gw rfl ?_;conv=>whnf)
       exact no (kG (.inr (.inr (.inr (yu hlt h1)))))
      ·rw [decide_eq_false (p:=(s[i].toNat:Int)<48) h5]
       conv=>whnf
       refine ⟨by omega,_,jw hlt,?_⟩
       conv=>whnf
       rw [decide_eq_true (p:=(s[i].toNat:Int)>57) (by omega)]
       conv=>whnf
       repeat (refine gw rfl ?_;conv=>whnf)
       exact no (kG (.inr (.inr (.inr (yu hlt h1)))))
   ·have:i=s.length:=by simp only [decide_eq_false_iff_not] at hb;omega
    subst this
    rw [List.take_length] at ht
    rw [List.take_length]
    repeat (refine gw rfl ?_;conv=>whnf)
    exact yes (Rq hl1 hl4 h3 ht) (zL hl4 ht).2
end Go.Proofs.YtbhfbliodeagmaaGreatDoor
namespace Go.Proofs.YtbhfbliodeagmaaGreatDoor
open Go Go.Abs Go.Own Go.RowKit
attribute [local irreducible] WP
theorem NK:∀ a b:Str,Lib.compareBytes a b=fC a b
 | [],[]=>rfl
 | [],_::_=>rfl
 | _::_,[]=>rfl
 | a::l,b::m=>by unfold Lib.compareBytes fC;rw [NK l m]
set_option maxHeartbeats 1000000 in
set_option maxRecDepth 100000 in
theorem Tryz.ajY (a b:Str) (w:World):Calls Tryz.prog 111 #[.string ⟨a.toArray⟩,.string ⟨b.toArray⟩] w fun e w'=>e = .returned (.int .i64 (fC a b))∧w'=w:=by
 go_enter Tryz.func111,Tryz.ntmps111
 go_wp2
 rw [run_callFunc_extern Tryz.func171 (by kernel_rfl) (by kernel_rfl) (by kernel_rfl) (e:=Extern.BytealgCompare.compare) (by kernel_rfl)]
 rw [Lib.run_compareString]
 simp only [Result.andThen]
 rw [Oper.upon_value]
 go_wp2
 go_ret
 exact ⟨by rw [← NK];rfl,rfl⟩
theorem Tryz.ada (a b:Str):Pure Tryz.prog 111 [.str a,.str b] [.int .i64 (fC a b)]:=by
 refine ⟨⟨_,Tryz.func111,by kernel_rfl,rfl⟩,fun ok w vs hgl hokb hsz hrd=>?_⟩
 obtain ⟨v0,v1,rfl⟩:∃ v0 v1,vs=#[v0,v1]:=by
  match vs,hsz with
  | ⟨[v0,v1]⟩,_=>exact ⟨v0,v1,rfl⟩
 have h0:=hrd 0 v0 _ rfl rfl
 have h1:=hrd 1 v1 _ rfl rfl
 cases h0
 cases h1
 refine (Tryz.ajY a b w).mono ?_
 rintro e w' ⟨rfl,rfl⟩
 exact ⟨_,rfl,Frame.refl _ _,.int _ _⟩
theorem Tryz.BA (a b:Str):Pure Tryz.prog 59 [.str a,.str b] [.int .i64 (fC a b)]:=by
 refine Pure.of_wp hT (nt:=_) (c:=_) Tryz.func59 rfl rfl rfl rfl (by kernel_rfl) ?_
 intro w0 ok0 β0
 repeat (refine gw rfl ?_;conv=>whnf)
 refine .inl ⟨_,Tryz.ada a b,.inl rfl,?_⟩
 conv=>whnf
 repeat (refine gw rfl ?_;conv=>whnf)
theorem sF:∀ a b:Str,Op.bytesLess a b=decide (fC a b<0)
 | [],[]=>by simp [Op.bytesLess,fC]
 | [],_::_=>by simp [Op.bytesLess,fC]
 | _::_,[]=>by simp [Op.bytesLess,fC]
 | a::l,b::m=>by
   unfold Op.bytesLess fC
   by_cases h:a<b
   ·simp [h]
   ·by_cases h':b<a
    ·have:a≠b:=by rintro rfl;exact h h'
     simp [h,h',this]
    ·have:a=b:=UInt8.le_antisymm (UInt8.not_lt.1 h') (UInt8.not_lt.1 h)
     subst this
     simp [UInt8.lt_irrefl,sF l m]
theorem xY:∀ {a b:Str},fC a b=0↔a=b
 | [],[]=>by simp [fC]
 | [],_::_=>by simp [fC]
 | _::_,[]=>by simp [fC]
 | a::l,b::m=>by
   unfold fC
   by_cases h:a<b
   ·have:a≠b:=by rintro rfl;exact UInt8.lt_irrefl _ h
    simp [h,this]
   ·by_cases h':b<a
    ·have:a≠b:=by rintro rfl;exact h h'
     simp [h,h',this]
    ·have:a=b:=UInt8.le_antisymm (UInt8.not_lt.1 h') (UInt8.not_lt.1 h)
     subst this
     simp [UInt8.lt_irrefl,xY]
theorem Ey:∀ a b:Str,fC a b=-1∨fC a b=0∨fC a b=1
 | [],[]=>by simp [fC]
 | [],_::_=>by simp [fC]
 | _::_,[]=>by simp [fC]
 | a::l,b::m=>by
   unfold fC
   split
   ·exact .inl rfl
   ·split
    ·exact .inr (.inr rfl)
    ·exact Ey l m
theorem Tryz.UU (a b:Str):Pure Tryz.prog 63 [.str a,.str b] [.int .i64 (fC a b)]:=by
 refine Pure.of_wp hT (nt:=_) (c:=_) Tryz.func63 rfl rfl rfl rfl (by kernel_rfl) ?_
 intro w0 ok0 β0
 have hr:=Ey a b
 repeat (refine gw rfl ?_;conv=>whnf)
 (split<;>rename_i hb<;>(try rw [hb])<;>(conv=>whnf))
 ·rw [sF] at hb
  simp only [decide_eq_true_eq] at hb
  repeat (refine gw rfl ?_;conv=>whnf)
  rw [show fC a b=-1 by omega]
 repeat (refine gw rfl ?_;conv=>whnf)
 (split<;>rename_i hb<;>(try rw [hb])<;>(conv=>whnf))
 ·have h1:¬ fC a b<0:=fun h=>by rw [sF,decide_eq_true h] at hb;simp at hb
  have h2:fC a b≠0:=fun h=>by rw [xY.1 h] at hb;simp at hb
  repeat (refine gw rfl ?_;conv=>whnf)
  rw [show fC a b=1 by omega]
 ·have h2:fC a b=0:=by
   rename_i h1 _
   rw [sF] at h1 hb
   rw [h1] at hb
   simp at hb
   exact xY.2 hb
  repeat (refine gw rfl ?_;conv=>whnf)
  rw [h2]
theorem Tryz.sign (a b:Int):Pure Tryz.prog 60 [.int .i64 a,.int .i64 b] [.int .i64 (kP a b)]:=by
 refine Pure.of_wp hT (nt:=_) (c:=_) Tryz.func60 rfl rfl rfl rfl (by kernel_rfl) ?_
 intro w0 ok0 β0
 unfold kP
 repeat (refine gw rfl ?_;conv=>whnf)
 (split<;>rename_i hb<;>(try rw [hb])<;>(conv=>whnf))
 ·simp only [decide_eq_true_eq] at hb
  repeat (refine gw rfl ?_;conv=>whnf)
  rw [if_pos hb]
 ·repeat (refine gw rfl ?_;conv=>whnf)
  simp only [decide_eq_false_iff_not] at hb
  rw [if_neg hb]
  (split<;>rename_i hb<;>(try rw [hb])<;>(conv=>whnf))
  ·simp only [decide_eq_true_eq] at hb
   repeat (refine gw rfl ?_;conv=>whnf)
   rw [if_pos hb]
  ·simp only [decide_eq_false_iff_not] at hb
   repeat (refine gw rfl ?_;conv=>whnf)
   rw [if_neg (by omega)]
theorem Tryz.order (a b:Int):Pure Tryz.prog 58 [.int .i64 a,.int .i64 b] [.int .i64 (kP a b)]:=by
 refine Pure.of_wp hT (nt:=_) (c:=_) Tryz.func58 rfl rfl rfl rfl (by kernel_rfl) ?_
 intro w0 ok0 β0
 unfold kP
 repeat (refine gw rfl ?_;conv=>whnf)
 (split<;>rename_i hb<;>(try rw [hb])<;>(conv=>whnf))
 ·simp only [decide_eq_true_eq] at hb
  repeat (refine gw rfl ?_;conv=>whnf)
  rw [if_pos hb]
 ·repeat (refine gw rfl ?_;conv=>whnf)
  simp only [decide_eq_false_iff_not] at hb
  rw [if_neg hb]
  (split<;>rename_i hb<;>(try rw [hb])<;>(conv=>whnf))
  ·simp only [decide_eq_true_eq] at hb
   repeat (refine gw rfl ?_;conv=>whnf)
   rw [if_pos hb]
  ·simp only [decide_eq_false_iff_not] at hb
   repeat (refine gw rfl ?_;conv=>whnf)
   rw [if_neg (by omega)]
end Go.Proofs.YtbhfbliodeagmaaGreatDoor
namespace Go.Proofs.YtbhfbliodeagmaaGreatDoor
open Go Go.Abs Go.Own
attribute [local irreducible] WP
theorem Fg {l:List Tm} {i:Nat} (h:i<l.length):(l.map enT)[((i:Int)).toNat]?=some (tD l[i].name l[i].args):=by rw [← ZW];exact Jo h
theorem Tryz.TY (t:Tm):Pure Tryz.prog 61 [tD t.name t.args] [.int .i64 (dO t)]:=by
 unfold dO
 generalize t.name=n
 generalize t.args=l
 refine Pure.of_wp hT (nt:=_) (c:=_) Tryz.func61 rfl rfl rfl rfl (by kernel_rfl) ?_
 intro w0 ok0 β0
 repeat (refine gw rfl ?_;conv=>whnf)
 (split<;>rename_i hb<;>(try rw [hb])<;>(conv=>whnf))
 ·have h0:l.length≠0:=by simp at hb;omega
  rw [if_neg h0]
  repeat (refine gw rfl ?_;conv=>whnf)
 ·have h0:l.length=0:=by simp at hb;simp [hb]
  rw [if_pos h0]
  repeat (refine gw rfl ?_;conv=>whnf)
  refine .inl ⟨_,Tryz.X8 n,.inl rfl,?_⟩
  conv=>whnf
  repeat (refine gw rfl ?_;conv=>whnf)
  cases hn:iU n with
  | true=>
    repeat (refine gw rfl ?_;conv=>whnf)
    rfl
  | false=>
    conv=>whnf
    repeat (refine gw rfl ?_;conv=>whnf)
    refine .inl ⟨_,Tryz.Oe n,.inl rfl,?_⟩
    conv=>whnf
    repeat (refine gw rfl ?_;conv=>whnf)
    cases hv:Bo n with
    | true=>
      repeat (refine gw rfl ?_;conv=>whnf)
      rfl
    | false=>
      conv=>whnf
      repeat (refine gw rfl ?_;conv=>whnf)
      rfl
def abG (x:Tm):Prop:=∀ y:Tm,okT x→okT y→Pure Tryz.prog 24 [tD x.name x.args,tD y.name y.args] [.int .i64 (ql x y)]
theorem Tryz.HY (l m:List Tm) (hl:l.length≤9223372036854775807) (ok1:∀ x∈l,okT x) (ok2:∀ x∈m,okT x) (h:∀ x∈l,abG x):Pure Tryz.prog 25 [.list (l.map enT),.list (m.map enT)] [.int .i64 (jd l m)]:=by
 refine Pure.of_wp hT (nt:=_) (c:=_) Tryz.func25 rfl rfl rfl rfl (by kernel_rfl) ?_
 intro w0 ok0 β0
 repeat (refine gw rfl ?_;conv=>whnf)
 refine WP.loop (α:=Nat) (fun i=>⟨[(0,.d (.list (l.map enT))),(1,.d (.list (m.map enT))),(5,.d (.int .i64 i))],[],[]⟩) (fun i=>(i≤l.length∧i≤m.length)∧jd l m=jd (l.drop i) (m.drop i)) (fun i=>l.length-i) 0 [] [] ?_ ?_ ?_
 ·((conv=>whnf);repeat (first | exact ⟨⟩ | (refine ⟨by first | rfl | (simp;done) | (simp;omega),?_⟩;conv=>whnf)))
 ·simp
 ·rintro i ⟨⟨hi,hj⟩,ht⟩
  repeat (refine gw rfl ?_;conv=>whnf)
  (split<;>rename_i hb<;>(try rw [hb])<;>(conv=>whnf))
  ·have hlt:i<l.length:=by simpa using hb
   clear hb
   repeat (refine gw rfl ?_;conv=>whnf)
   (split<;>rename_i hb<;>(try rw [hb])<;>(conv=>whnf))
   ·have hlm:i<m.length:=by simpa using hb
    clear hb
    rw [Ew hlt hlm] at ht
    repeat (refine gw rfl ?_;conv=>whnf)
    refine ⟨by omega,_,Fg hlt,rfl,?_⟩
    conv=>whnf
    refine ⟨by omega,_,Fg hlm,rfl,?_⟩
    conv=>whnf
    refine .inl ⟨_,h _ (List.getElem_mem hlt) m[i] (ok1 _ (List.getElem_mem hlt)) (ok2 _ (List.getElem_mem hlm)),.inl rfl,?_⟩
    conv=>whnf
    repeat (refine gw rfl ?_;conv=>whnf)
    (split<;>rename_i hb<;>(try rw [hb])<;>(conv=>whnf))
    ·have h0:ql l[i] m[i]≠0:=by simpa using hb
     rw [if_pos h0] at ht
     repeat (refine gw rfl ?_;conv=>whnf)
     rw [ht]
    ·have h0:ql l[i] m[i]=0:=by simpa using hb
     rw [if_neg (by omega)] at ht
     repeat (refine gw rfl ?_;conv=>whnf)
     refine ⟨by omega,?_⟩
     conv=>whnf
     refine ⟨i+1,[],[],?_,⟨⟨by omega,by omega⟩,ht⟩,by omega⟩
     ((conv=>whnf);repeat (first | exact ⟨⟩ | (refine ⟨by first | rfl | (simp;done) | (simp;omega),?_⟩;conv=>whnf)))
   ·have:i=m.length:=by simp at hb;omega
    repeat (refine gw rfl ?_;conv=>whnf)
    refine .inl ⟨_,Tryz.sign _ _,.inl rfl,?_⟩
    conv=>whnf
    repeat (refine gw rfl ?_;conv=>whnf)
    rw [ht,sW (by omega) (by omega) (.inr this)]
    simp
  ·have:i=l.length:=by simp at hb;omega
   repeat (refine gw rfl ?_;conv=>whnf)
   refine .inl ⟨_,Tryz.sign _ _,.inl rfl,?_⟩
   conv=>whnf
   repeat (refine gw rfl ?_;conv=>whnf)
   rw [ht,sW (by omega) (by omega) (.inl this)]
   simp
theorem Tryz.Hy:∀ x:Tm,abG x:=Tm.ind fun x ih y okx oky=>by
 have c1:=Tryz.TY x
 have c2:=Tryz.TY y
 have hl:=Tryz.HY x.args y.args (kF.1 okx).1 (kF.1 okx).2 (kF.1 oky).2 ih
 rw [TV]
 clear ih okx oky
 generalize dO x=cx at *
 generalize dO y=cy at *
 generalize x.name=n at *
 generalize x.args=l at *
 generalize y.name=m at *
 generalize y.args=k at *
 refine Pure.of_wp hT (nt:=_) (c:=_) Tryz.func24 rfl rfl rfl rfl (by kernel_rfl) ?_
 intro w0 ok0 β0
 repeat (refine gw rfl ?_;conv=>whnf)
 refine .inl ⟨_,c1,.inl rfl,?_⟩
 conv=>whnf
 refine .inl ⟨_,c2,.inl rfl,?_⟩
 conv=>whnf
 refine .inl ⟨_,Tryz.sign cx cy,.inl rfl,?_⟩
 conv=>whnf
 repeat (refine gw rfl ?_;conv=>whnf)
 (split<;>rename_i hb<;>(try rw [hb])<;>(conv=>whnf))
 ·have h0:kP cx cy≠0:=by simpa using hb
  rw [if_pos h0]
  repeat (refine gw rfl ?_;conv=>whnf)
 rw [if_neg (by simpa using hb)]
 clear hb
 repeat (refine gw rfl ?_;conv=>whnf)
 refine .inl ⟨_,c1,.inl rfl,?_⟩
 conv=>whnf
 repeat (refine gw rfl ?_;conv=>whnf)
 (split<;>rename_i hb<;>(try rw [hb])<;>(conv=>whnf))
 ·have h0:cx=0:=by simpa using hb
  rw [if_pos h0]
  repeat (refine gw rfl ?_;conv=>whnf)
  refine .inl ⟨_,Tryz.Qi n,.inl rfl,?_⟩
  conv=>whnf
  refine .inl ⟨_,Tryz.Qi m,.inl rfl,?_⟩
  conv=>whnf
  refine .inl ⟨_,Tryz.sign _ _,.inl rfl,?_⟩
  conv=>whnf
  repeat (refine gw rfl ?_;conv=>whnf)
 rw [if_neg (by simpa using hb)]
 clear hb
 repeat (refine gw rfl ?_;conv=>whnf)
 (split<;>rename_i hb<;>(try rw [hb])<;>(conv=>whnf))
 ·have h0:l.length≠k.length:=by simp at hb;omega
  rw [if_pos h0]
  repeat (refine gw rfl ?_;conv=>whnf)
  refine .inl ⟨_,Tryz.sign _ _,.inl rfl,?_⟩
  conv=>whnf
  repeat (refine gw rfl ?_;conv=>whnf)
  simp
 have h0:l.length=k.length:=by simp at hb;omega
 rw [if_neg (by omega)]
 clear hb
 repeat (refine gw rfl ?_;conv=>whnf)
 refine .inl ⟨_,Tryz.UU n m,.inl rfl,?_⟩
 conv=>whnf
 repeat (refine gw rfl ?_;conv=>whnf)
 (split<;>rename_i hb<;>(try rw [hb])<;>(conv=>whnf))
 ·have h1:fC n m≠0:=by simpa using hb
  rw [if_pos h1]
  repeat (refine gw rfl ?_;conv=>whnf)
 rw [if_neg (by simpa using hb)]
 clear hb
 repeat (refine gw rfl ?_;conv=>whnf)
 refine .inl ⟨_,hl,.inl rfl,?_⟩
 conv=>whnf
 repeat (refine gw rfl ?_;conv=>whnf)
def kV (t:Tm):Int:=if dO t=0 then lX t.name else 0
def kN (t:Tm):Str:=if dO t=0 then [] else t.name
def XV (t:Tm):D := .agg [.int .i64 (dO t),.int .i64 (kV t),.int .i64 t.args.length,.str (kN t)]
theorem Tryz.kindOf (t:Tm):Pure Tryz.prog 57 [tD t.name t.args] [XV t]:=by
 unfold XV kV kN dO
 generalize t.name=n
 generalize t.args=l
 refine Pure.of_wp hT (nt:=_) (c:=_) Tryz.func57 rfl rfl rfl rfl (by kernel_rfl) ?_
 intro w0 ok0 β0
 repeat (refine gw rfl ?_;conv=>whnf)
 (split<;>rename_i hb<;>(try rw [hb])<;>(conv=>whnf))
 ·have h0:l.length≠0:=by simp at hb;omega
  rw [if_neg h0]
  repeat (refine gw rfl ?_;conv=>whnf)
  (repeat (refine ⟨by first | rfl | omega,?_⟩;conv=>whnf))
  repeat (refine gw rfl ?_;conv=>whnf)
  simp
 ·have h0:l.length=0:=by simp at hb;simp [hb]
  rw [if_pos h0]
  repeat (refine gw rfl ?_;conv=>whnf)
  refine .inl ⟨_,Tryz.number n,.inl rfl,?_⟩
  conv=>whnf
  repeat (refine gw rfl ?_;conv=>whnf)
  cases hn:iU n with
  | true=>
    conv=>whnf
    repeat (refine gw rfl ?_;conv=>whnf)
    (repeat (refine ⟨by first | rfl | omega,?_⟩;conv=>whnf))
    repeat (refine gw rfl ?_;conv=>whnf)
    simp [h0]
  | false=>
    conv=>whnf
    repeat (refine gw rfl ?_;conv=>whnf)
    refine .inl ⟨_,Tryz.variable n,.inl rfl,?_⟩
    conv=>whnf
    repeat (refine gw rfl ?_;conv=>whnf)
    cases hv:Bo n with
    | true=>
      conv=>whnf
      repeat (refine gw rfl ?_;conv=>whnf)
      (repeat (refine ⟨by first | rfl | omega,?_⟩;conv=>whnf))
      repeat (refine gw rfl ?_;conv=>whnf)
      simp [h0]
    | false=>
      conv=>whnf
      repeat (refine gw rfl ?_;conv=>whnf)
      (repeat (refine ⟨by first | rfl | omega,?_⟩;conv=>whnf))
      repeat (refine gw rfl ?_;conv=>whnf)
      simp [h0]
def anl (x:Tm):Prop:=∀ y:Tm,okT x→okT y→Pure Tryz.prog 22 [tD x.name x.args,tD y.name y.args] [.int .i64 (ql x y)]
theorem Tryz.TW (l m:List Tm) (hl:l.length≤9223372036854775807) (ok1:∀ x∈l,okT x) (ok2:∀ x∈m,okT x) (h:∀ x∈l,anl x):Pure Tryz.prog 23 [.list (l.map enT),.list (m.map enT)] [.int .i64 (jd l m)]:=by
 refine Pure.of_wp hT (nt:=_) (c:=_) Tryz.func23 rfl rfl rfl rfl (by kernel_rfl) ?_
 intro w0 ok0 β0
 repeat (refine gw rfl ?_;conv=>whnf)
 refine WP.loop (α:=Nat) (fun i=>⟨[(0,.d (.list (l.map enT))),(1,.d (.list (m.map enT))),(5,.d (.int .i64 i))],[],[]⟩) (fun i=>(i≤l.length∧i≤m.length)∧jd l m=jd (l.drop i) (m.drop i)) (fun i=>l.length-i) 0 [] [] ?_ ?_ ?_
 ·((conv=>whnf);repeat (first | exact ⟨⟩ | (refine ⟨by first | rfl | (simp;done) | (simp;omega),?_⟩;conv=>whnf)))
 ·simp
 ·rintro i ⟨⟨hi,hj⟩,ht⟩
  repeat (refine gw rfl ?_;conv=>whnf)
  (split<;>rename_i hb<;>(try rw [hb])<;>(conv=>whnf))
  ·have hlt:i<l.length:=by simpa using hb
   clear hb
   repeat (refine gw rfl ?_;conv=>whnf)
   (split<;>rename_i hb<;>(try rw [hb])<;>(conv=>whnf))
   ·have hlm:i<m.length:=by simpa using hb
    clear hb
    rw [Ew hlt hlm] at ht
    repeat (refine gw rfl ?_;conv=>whnf)
    refine ⟨by omega,_,Fg hlt,rfl,?_⟩
    conv=>whnf
    refine ⟨by omega,_,Fg hlm,rfl,?_⟩
    conv=>whnf
    refine .inl ⟨_,h _ (List.getElem_mem hlt) m[i] (ok1 _ (List.getElem_mem hlt)) (ok2 _ (List.getElem_mem hlm)),.inl rfl,?_⟩
    conv=>whnf
    repeat (refine gw rfl ?_;conv=>whnf)
    (split<;>rename_i hb<;>(try rw [hb])<;>(conv=>whnf))
    ·have h0:ql l[i] m[i]≠0:=by simpa using hb
     rw [if_pos h0] at ht
     repeat (refine gw rfl ?_;conv=>whnf)
     rw [ht]
    ·have h0:ql l[i] m[i]=0:=by simpa using hb
     rw [if_neg (by omega)] at ht
     repeat (refine gw rfl ?_;conv=>whnf)
     refine ⟨by omega,?_⟩
     conv=>whnf
     refine ⟨i+1,[],[],?_,⟨⟨by omega,by omega⟩,ht⟩,by omega⟩
     ((conv=>whnf);repeat (first | exact ⟨⟩ | (refine ⟨by first | rfl | (simp;done) | (simp;omega),?_⟩;conv=>whnf)))
   ·have:i=m.length:=by simp at hb;omega
    repeat (refine gw rfl ?_;conv=>whnf)
    refine .inl ⟨_,Tryz.order _ _,.inl rfl,?_⟩
    conv=>whnf
    repeat (refine gw rfl ?_;conv=>whnf)
    rw [ht,sW (by omega) (by omega) (.inr this)]
    simp
  ·have:i=l.length:=by simp at hb;omega
   repeat (refine gw rfl ?_;conv=>whnf)
   refine .inl ⟨_,Tryz.order _ _,.inl rfl,?_⟩
   conv=>whnf
   repeat (refine gw rfl ?_;conv=>whnf)
   rw [ht,sW (by omega) (by omega) (.inl this)]
   simp
theorem Di (t:Tm):(dO t=0∧t.args.length=0)∨dO t≠0:=by
 unfold dO
 by_cases h:t.args.length=0
 ·rw [if_pos h]
  by_cases h1:iU t.name=true
  ·rw [if_pos h1];exact .inl ⟨rfl,h⟩
  ·rw [if_neg h1]
   right;split<;>decide
 ·rw [if_neg h];right;decide
theorem H8 (a:Int):kP a a=0:=by unfold kP;rw [if_neg (by omega),if_neg (by omega)]
theorem Tryz.compare:∀ x:Tm,anl x:=Tm.ind fun x ih y okx oky=>by
 have c1:=Tryz.kindOf x
 have c2:=Tryz.kindOf y
 have hl:=Tryz.TW x.args y.args (kF.1 okx).1 (kF.1 okx).2 (kF.1 oky).2 ih
 have hx:=Di x
 have hy:=Di y
 rw [TV]
 unfold XV kV kN at c1 c2
 clear ih okx oky
 generalize dO x=cx at *
 generalize dO y=cy at *
 generalize x.name=n at *
 generalize x.args=l at *
 generalize y.name=m at *
 generalize y.args=k at *
 generalize hvx:(if cx=0 then lX n else 0)=vx at *
 generalize hvy:(if cy=0 then lX m else 0)=vy at *
 generalize hnx:(if cx=0 then [] else n)=nx at *
 generalize hny:(if cy=0 then [] else m)=ny at *
 refine Pure.of_wp hT (nt:=_) (c:=_) Tryz.func22 rfl rfl rfl rfl (by kernel_rfl) ?_
 intro w0 ok0 β0
 repeat (refine gw rfl ?_;conv=>whnf)
 refine .inl ⟨_,c1,.inl rfl,?_⟩
 conv=>whnf
 refine .inl ⟨_,c2,.inl rfl,?_⟩
 conv=>whnf
 repeat (refine gw rfl ?_;conv=>whnf)
 have he:aW [.int .i64 cx,.int .i64 vx,.int .i64 (l.length:Int),.str nx] [.int .i64 cy,.int .i64 vy,.int .i64 (k.length:Int),.str ny]=(decide (cx=cy)&&(decide (vx=vy)&&(decide (l.length=k.length)&&decide (nx=ny)))):=by
  simp only [aW,eq1]
  by_cases h1:cx=cy<;>by_cases h2:vx=vy<;>by_cases h3:l.length=k.length<;>by_cases h4:nx=ny<;>(simp [h1,h2,h3,h4]<;>omega)
 rw [he]
 by_cases h1:cx=cy
 ·subst h1
  rw [if_neg (by simp [H8])]
  by_cases h0:cx=0
  ·have hlx:l.length=0:=hx.elim (fun h=>h.2) (fun h=>absurd h0 h)
   have hly:k.length=0:=hy.elim (fun h=>h.2) (fun h=>absurd h0 h)
   rw [if_pos h0]
   rw [if_pos h0] at hvx hvy hnx hny
   subst hvx;subst hvy;subst hnx;subst hny
   by_cases h2:lX n=lX m
   ·rw [decide_eq_true rfl,decide_eq_true h2,decide_eq_true (hlx.trans hly.symm),decide_eq_true rfl]
    conv=>whnf
    repeat (refine gw rfl ?_;conv=>whnf)
    refine .inl ⟨_,hl,.inl rfl,?_⟩
    conv=>whnf
    repeat (refine gw rfl ?_;conv=>whnf)
    have e1:l=[]:=List.length_eq_zero_iff.1 hlx
    have e2:k=[]:=List.length_eq_zero_iff.1 hly
    rw [e1,e2,h2,H8,jd]
   ·rw [decide_eq_true rfl,decide_eq_false h2]
    conv=>whnf
    repeat (refine gw rfl ?_;conv=>whnf)
    rw [show (cx != cx)=false by simp]
    conv=>whnf
    repeat (refine gw rfl ?_;conv=>whnf)
    rw [show (lX n != lX m)=true by simpa using h2]
    conv=>whnf
    repeat (refine gw rfl ?_;conv=>whnf)
    refine .inl ⟨_,Tryz.order _ _,.inl rfl,?_⟩
    conv=>whnf
    repeat (refine gw rfl ?_;conv=>whnf)
  ·rw [if_neg h0]
   rw [if_neg h0] at hvx hvy hnx hny
   subst hvx;subst hvy;subst hnx;subst hny
   by_cases h3:l.length=k.length
   ·rw [if_neg (by omega)]
    by_cases h4:n=m
    ·subst h4
     rw [decide_eq_true rfl,decide_eq_true rfl,decide_eq_true h3,decide_eq_true rfl,if_neg (by simp [xY])]
     conv=>whnf
     repeat (refine gw rfl ?_;conv=>whnf)
     refine .inl ⟨_,hl,.inl rfl,?_⟩
     conv=>whnf
     repeat (refine gw rfl ?_;conv=>whnf)
    ·rw [decide_eq_true rfl,decide_eq_true rfl,decide_eq_true h3,decide_eq_false h4,if_pos (fun h=>h4 (xY.1 h))]
     conv=>whnf
     repeat (refine gw rfl ?_;conv=>whnf)
     rw [show (cx != cx)=false by simp]
     conv=>whnf
     repeat (refine gw rfl ?_;conv=>whnf)
     rw [show ((l.length:Int) != (k.length:Int))=false by simp [h3]]
     conv=>whnf
     repeat (refine gw rfl ?_;conv=>whnf)
     refine .inl ⟨_,Tryz.BA _ _,.inl rfl,?_⟩
     conv=>whnf
     repeat (refine gw rfl ?_;conv=>whnf)
   ·rw [if_pos h3,decide_eq_true rfl,decide_eq_true rfl,decide_eq_false h3]
    conv=>whnf
    repeat (refine gw rfl ?_;conv=>whnf)
    rw [show (cx != cx)=false by simp]
    conv=>whnf
    repeat (refine gw rfl ?_;conv=>whnf)
    rw [show ((l.length:Int) != (k.length:Int))=true by simp;omega]
    conv=>whnf
    repeat (refine gw rfl ?_;conv=>whnf)
    refine .inl ⟨_,Tryz.order _ _,.inl rfl,?_⟩
    conv=>whnf
    repeat (refine gw rfl ?_;conv=>whnf)
 ·have hc:kP cx cy≠0:=fun h=>h1 (VK.1 h)
  rw [if_pos hc,decide_eq_false h1]
  conv=>whnf
  repeat (refine gw rfl ?_;conv=>whnf)
  rw [show (cx != cy)=true by simpa using h1]
  conv=>whnf
  repeat (refine gw rfl ?_;conv=>whnf)
  refine .inl ⟨_,Tryz.order _ _,.inl rfl,?_⟩
  conv=>whnf
  repeat (refine gw rfl ?_;conv=>whnf)
theorem maxLen_eq:maxLen=9223372036854775807:=rfl
theorem Tryz.Wj:∀ t:Tm,okT t→(aY t).length≤1000000000→Pure Tryz.prog 31 [tD t.name t.args] [.str (aY t)]:=Tm.ind fun t ih ok hlen=>by
 obtain ⟨n,l⟩:=t
 have hok:=kF.1 ok
 simp only [Tm.args] at hok
 show Pure _ _ [tD n l] _
 have ht:=wz n l
 rw [ht,List.length_append] at hlen
 rw [ht]
 clear ht
 refine Pure.of_wp hT (nt:=_) (c:=_) Tryz.func31 rfl rfl rfl rfl (by kernel_rfl) ?_
 intro w0 ok0 β0
 repeat (refine gw rfl ?_;conv=>whnf)
 (split<;>rename_i hb<;>(try rw [hb])<;>(conv=>whnf))
 ·have h0:l=[]:=List.length_eq_zero_iff.1 (by simpa using hb)
  subst h0
  repeat (refine gw rfl ?_;conv=>whnf)
  simp [parens]
 ·have hpos:0<l.length:=by
   have:l.length≠0:=by simpa using hb
   omega
  have hpar:parens (l.map aY)=[40]++Lib.join (l.map aY) [44]++[41]:=by
   cases l with
   | nil=>cases hpos
   | cons x r=>rfl
  rw [hpar] at hlen ⊢
  simp only [List.length_append,List.length_cons,List.length_nil] at hlen
  clear hpar hb
  repeat (refine gw rfl ?_;conv=>whnf)
  refine ⟨by rw [maxLen_eq];simp;omega,?_⟩
  conv=>whnf
  repeat (refine gw rfl ?_;conv=>whnf)
  refine WP.loop (α:=Nat) (fun i=>⟨[(1,.d (.ref [.str n,.list (l.map enT)] 0)),(3,.d (.str (n++[40]++fG l i))),(16,.d (.int .i64 l.length)),(17,.d (.int .i64 i))],[],[]⟩)
   (fun i=>i≤l.length) (fun i=>l.length-i) 0 [] [] ?_ ?_ ?_
  ·rw [show fG l 0=[] from rfl,List.append_nil]
   ((conv=>whnf);repeat (first | exact ⟨⟩ | (refine ⟨by first | rfl | (simp;done) | (simp;omega),?_⟩;conv=>whnf)))
  ·simp
  ·intro i hi
   repeat (refine gw rfl ?_;conv=>whnf)
   (split<;>rename_i hb<;>(try rw [hb])<;>(conv=>whnf))
   ·have hlt:i<l.length:=by simpa using hb
    clear hb
    have hle:=Ih l (i+1)
    have hsucc:=Af hlt
    rw [hsucc] at hle
    have ht1:=yR (List.mem_map.2 ⟨l[i],List.getElem_mem hlt,rfl⟩:aY l[i]∈l.map aY) [44]
    have hc:=ih l[i] (List.getElem_mem hlt) (hok.2 _ (List.getElem_mem hlt)) (by omega)
    repeat (refine gw rfl ?_;conv=>whnf)
    (split<;>rename_i hb<;>(try rw [hb])<;>(conv=>whnf))
    ·have h0:i≠0:=by
      have:(0:Int)<i:=by simpa using hb
      omega
     clear hb
     rw [if_neg h0] at hle hsucc
     simp only [List.length_append,List.length_cons,List.length_nil] at hle
     repeat (refine gw rfl ?_;conv=>whnf)
     refine ⟨by rw [maxLen_eq];simp only [List.length_append,List.length_cons,List.length_nil];omega,?_⟩
     conv=>whnf
     repeat (refine gw rfl ?_;conv=>whnf)
     refine ⟨by omega,_,Fg hlt,rfl,?_⟩
     conv=>whnf
     refine .inl ⟨_,hc,.inl rfl,?_⟩
     conv=>whnf
     repeat (refine gw rfl ?_;conv=>whnf)
     refine ⟨by rw [maxLen_eq];simp only [List.length_append,List.length_cons,List.length_nil];omega,?_⟩
     conv=>whnf
     repeat (refine gw rfl ?_;conv=>whnf)
     refine ⟨by omega,?_⟩
     conv=>whnf
     refine ⟨i+1,[],[],?_,by omega,by omega⟩
     rw [hsucc,show n++[40]++(fG l i++[44]++aY l[i])=n++[40]++fG l i++[44]++aY l[i] by simp]
     ((conv=>whnf);repeat (first | exact ⟨⟩ | (refine ⟨by first | rfl | (simp;done) | (simp;omega),?_⟩;conv=>whnf)))
    ·have h0:i=0:=by
      have:¬ (0:Int)<i:=by simpa using hb
      omega
     clear hb
     rw [if_pos h0,List.append_nil] at hle hsucc
     simp only [List.length_append] at hle
     repeat (refine gw rfl ?_;conv=>whnf)
     refine ⟨by omega,_,Fg hlt,rfl,?_⟩
     conv=>whnf
     refine .inl ⟨_,hc,.inl rfl,?_⟩
     conv=>whnf
     repeat (refine gw rfl ?_;conv=>whnf)
     refine ⟨by rw [maxLen_eq];simp only [List.length_append,List.length_cons,List.length_nil];omega,?_⟩
     conv=>whnf
     repeat (refine gw rfl ?_;conv=>whnf)
     refine ⟨by omega,?_⟩
     conv=>whnf
     refine ⟨i+1,[],[],?_,by omega,by omega⟩
     rw [hsucc,show n++[40]++(fG l i++aY l[i])=n++[40]++fG l i++aY l[i] by simp]
     ((conv=>whnf);repeat (first | exact ⟨⟩ | (refine ⟨by first | rfl | (simp;done) | (simp;omega),?_⟩;conv=>whnf)))
   ·have:i=l.length:=by simp at hb;omega
    have hall:fG l i=Lib.join (l.map aY) [44]:=by rw [this,fG,gG,List.take_length]
    repeat (refine gw rfl ?_;conv=>whnf)
    refine ⟨by rw [maxLen_eq,hall];simp only [List.length_append,List.length_cons,List.length_nil];omega,?_⟩
    conv=>whnf
    repeat (refine gw rfl ?_;conv=>whnf)
    rw [hall]
    simp
theorem Pj {l:List Sn} {i:Nat} (h:i<l.length):(l.map enS)[((i:Int)).toNat]?=some (enS l[i]):=Jo h
theorem Tryz.ahx (l:List Sn) (hl:l.length≤1000000000) (hok:∀ s∈l,okS s) (hp:∀ s∈l,s.2.length≤10000000) (hlen:(bY l).length≤1000000000):Pure Tryz.prog 11 [.list (l.map enS)] [.str (bY l)]:=by
 refine Pure.of_wp hT (nt:=_) (c:=_) Tryz.func11 rfl rfl rfl rfl (by kernel_rfl) ?_
 intro w0 ok0 β0
 repeat (refine gw rfl ?_;conv=>whnf)
 refine WP.loop (α:=Nat) (fun i=>⟨[(0,.d (.list (l.map enS))),(3,.d (.str (bY (l.take i)))),(4,.d (.int .i64 i))],[],[]⟩)
  (fun i=>i≤l.length) (fun i=>l.length-i) 0 [] [] ?_ ?_ ?_
 ·((conv=>whnf);repeat (first | exact ⟨⟩ | (refine ⟨by first | rfl | (simp;done) | (simp;omega),?_⟩;conv=>whnf)))
 ·simp
 ·intro i hi
  repeat (refine gw rfl ?_;conv=>whnf)
  (split<;>rename_i hb<;>(try rw [hb])<;>(conv=>whnf))
  ·have hlt:i<l.length:=by simpa using hb
   clear hb
   have hin:=Ld hlt
   have hsucc:=jP hlt
   obtain ⟨okm,okp⟩:=hok l[i] (List.getElem_mem hlt)
   have hpl:=hp l[i] (List.getElem_mem hlt)
   have hx:=Pj hlt
   generalize l[i]=s at hin hsucc okm okp hpl hx
   obtain ⟨m,ps⟩:=s
   simp only at okm okp hpl
   simp only [textS,List.length_append,List.length_cons,List.length_nil] at hin hsucc
   have ht:=Tryz.Wj m okm (by omega)
   repeat (refine gw rfl ?_;conv=>whnf)
   refine ⟨by omega,_,hx,rfl,?_⟩
   conv=>whnf
   refine .inl ⟨_,ht,.inl rfl,?_⟩
   conv=>whnf
   repeat (refine gw rfl ?_;conv=>whnf)
   refine ⟨by rw [maxLen_eq];omega,?_⟩
   conv=>whnf
   repeat (refine gw rfl ?_;conv=>whnf)
   refine ⟨by rw [maxLen_eq];simp only [List.length_append,List.length_cons,List.length_nil];omega,?_⟩
   conv=>whnf
   repeat (refine gw rfl ?_;conv=>whnf)
   obtain ⟨X,hX⟩:∃ X,bY (l.take i)++aY m++[58,32]=X:=⟨_,rfl⟩
   have hXl:X.length=(bY (l.take i)).length+(aY m).length+2:=by rw [← hX];simp only [List.length_append,List.length_cons,List.length_nil]
   refine WP.loop (α:=Nat) (fun k=>⟨[(0,.d (.list (l.map enS))),(3,.d (.str (X++gG [44,32] ps k))),(4,.d (.int .i64 i)),(5,.d (.int .i64 k))],[],[]⟩)
    (fun k=>k≤ps.length) (fun k=>ps.length-k) 0 [] [] ?_ ?_ ?_
   ·rw [show gG [44,32] ps 0=[] from rfl,List.append_nil,← hX]
    ((conv=>whnf);repeat (first | exact ⟨⟩ | (refine ⟨by first | rfl | (simp;done) | (simp;omega),?_⟩;conv=>whnf)))
   ·simp
   ·intro k hk
    repeat (refine gw rfl ?_;conv=>whnf)
    refine ⟨by omega,_,hx,rfl,?_⟩
    conv=>whnf
    repeat (refine gw rfl ?_;conv=>whnf)
    (split<;>rename_i hb<;>(try rw [hb])<;>(conv=>whnf))
    ·have hkt:k<ps.length:=by simpa using hb
     clear hb
     have hle:=Gw [44,32] ps (k+1)
     have hs2:=zM (sep:=[44,32]) hkt
     rw [hs2] at hle
     have ht1:=yR (List.mem_map.2 ⟨ps[k],List.getElem_mem hkt,rfl⟩:aY ps[k]∈ps.map aY) [44,32]
     have hc:=Tryz.Wj ps[k] (okp _ (List.getElem_mem hkt)) (by omega)
     repeat (refine gw rfl ?_;conv=>whnf)
     (split<;>rename_i hb<;>(try rw [hb])<;>(conv=>whnf))
     ·have h0:k≠0:=by
       have:(0:Int)<k:=by simpa using hb
       omega
      clear hb
      rw [if_neg h0] at hle hs2
      simp only [List.length_append,List.length_cons,List.length_nil] at hle
      repeat (refine gw rfl ?_;conv=>whnf)
      refine ⟨by rw [maxLen_eq];simp only [List.length_append,List.length_cons,List.length_nil];omega,?_⟩
      conv=>whnf
      repeat (refine gw rfl ?_;conv=>whnf)
      refine ⟨by omega,_,hx,rfl,?_⟩
      conv=>whnf
      repeat (refine gw rfl ?_;conv=>whnf)
      refine ⟨by omega,_,Fg hkt,rfl,?_⟩
      conv=>whnf
      refine .inl ⟨_,hc,.inl rfl,?_⟩
      conv=>whnf
      repeat (refine gw rfl ?_;conv=>whnf)
      refine ⟨by rw [maxLen_eq];simp only [List.length_append,List.length_cons,List.length_nil];omega,?_⟩
      conv=>whnf
      repeat (refine gw rfl ?_;conv=>whnf)
      refine ⟨by omega,?_⟩
      conv=>whnf
      refine ⟨k+1,[],[],?_,by omega,by omega⟩
      rw [hs2,show X++(gG [44,32] ps k++[44,32]++aY ps[k])=X++gG [44,32] ps k++[44,32]++aY ps[k] by simp]
      ((conv=>whnf);repeat (first | exact ⟨⟩ | (refine ⟨by first | rfl | (simp;done) | (simp;omega),?_⟩;conv=>whnf)))
     ·have h0:k=0:=by
       have:¬ (0:Int)<k:=by simpa using hb
       omega
      clear hb
      rw [if_pos h0,List.append_nil] at hle hs2
      simp only [List.length_append] at hle
      repeat (refine gw rfl ?_;conv=>whnf)
      refine ⟨by omega,_,hx,rfl,?_⟩
      conv=>whnf
      repeat (refine gw rfl ?_;conv=>whnf)
      refine ⟨by omega,_,Fg hkt,rfl,?_⟩
      conv=>whnf
      refine .inl ⟨_,hc,.inl rfl,?_⟩
      conv=>whnf
      repeat (refine gw rfl ?_;conv=>whnf)
      refine ⟨by rw [maxLen_eq];simp only [List.length_append];omega,?_⟩
      conv=>whnf
      repeat (refine gw rfl ?_;conv=>whnf)
      refine ⟨by omega,?_⟩
      conv=>whnf
      refine ⟨k+1,[],[],?_,by omega,by omega⟩
      rw [hs2,show X++(gG [44,32] ps k++aY ps[k])=X++gG [44,32] ps k++aY ps[k] by simp]
      ((conv=>whnf);repeat (first | exact ⟨⟩ | (refine ⟨by first | rfl | (simp;done) | (simp;omega),?_⟩;conv=>whnf)))
    ·have:k=ps.length:=by simp at hb;omega
     have hall:gG [44,32] ps k=Lib.join (ps.map aY) [44,32]:=by rw [this,gG,List.take_length]
     rw [hall]
     repeat (refine gw rfl ?_;conv=>whnf)
     refine ⟨by rw [maxLen_eq];simp only [List.length_append,List.length_cons,List.length_nil];omega,?_⟩
     conv=>whnf
     repeat (refine gw rfl ?_;conv=>whnf)
     refine ⟨by omega,?_⟩
     conv=>whnf
     refine ⟨i+1,[],[],?_,by omega,by omega⟩
     rw [hsucc,show bY (l.take i)++(aY m++[58,32]++Lib.join (ps.map aY) [44,32]++[10])=X++Lib.join (ps.map aY) [44,32]++[10] by rw [← hX];simp]
     ((conv=>whnf);repeat (first | exact ⟨⟩ | (refine ⟨by first | rfl | (simp;done) | (simp;omega),?_⟩;conv=>whnf)))
  ·have:i=l.length:=by simp at hb;omega
   rw [this,List.take_length]
   repeat (refine gw rfl ?_;conv=>whnf)
end Go.Proofs.YtbhfbliodeagmaaGreatDoor
namespace Go.Own
def Le (most:Int) (p:Tm→Int):Int→List Tm→Int
 | n,[]=>n
 | n,x::l=>if most<n then n else Le most p (n+p x) l
def iY (most:Int):Nat→Tm→Int
 | 0,_=>most+1
 | d+1,t=>Le most (iY most d) 1 t.args
theorem Bz {most b:Int} {p:Tm→Int} (hp:∀ x,1≤p x∧p x≤b) (hm:0≤most):∀ (l:List Tm) (n:Int),1≤n→n≤most+b→0≤b→1≤Le most p n l∧Le most p n l≤most+b
 | [],n,h1,h2,_=>⟨h1,h2⟩
 | x::l,n,h1,h2,h3=>by
   unfold Le
   split
   ·exact ⟨h1,h2⟩
   ·have:=hp x
    exact Bz hp hm l _ (by omega) (by omega) h3
theorem wV {most:Int} (hm:0≤most):∀ (d:Nat) (t:Tm),1≤iY most d t∧iY most d t≤(d+1)*(most+1)
 | 0,t=>by unfold iY;refine ⟨by omega,by simp⟩
 | d+1,t=>by
   have ih:=wV hm d
   have hb:((d+1:Nat)+1:Int)*(most+1)=(most+1)+(d+1)*(most+1):=by
    rw [show ((d+1:Nat)+1:Int)=(d+1)+1 by omega,Int.add_mul];omega
   have h0:(0:Int)≤(d+1)*(most+1):=Int.mul_nonneg (by omega) (by omega)
   have:=Bz (p:=iY most d) (b:=(d+1)*(most+1)) ih hm t.args 1 (Int.le_refl _) (by
    have:=ih t;omega) h0
   unfold iY
   omega
def iq (most:Int) (t:Tm):Bool:=decide (iY most most.toNat t≤most)
def fV (most:Int) (l:List Tm):Bool:=decide ((l.length:Int)≤most)&&l.all (iq most)
end Go.Own
namespace Go.Proofs.YtbhfbliodeagmaaGreatDoor
open Go Go.Abs Go.Own
attribute [local irreducible] WP
theorem IQ (most:Nat) (hm:most≤1000) (d:Nat) (hd:d≤1000) (t:Tm):1≤iY most d t∧iY most d t≤1002001:=by
 obtain ⟨h1,h2⟩:=wV (most:=(most:Nat)) (by omega) d t
 have:((d:Int)+1)*((most:Int)+1)≤1001*1001:=Int.mul_le_mul (by omega) (by omega) (by omega) (by decide)
 omega
theorem Tryz.parts (most:Nat) (hm:most≤1000):∀ (d:Nat),d≤1000→∀ t:Tm,okT t→Pure Tryz.prog 32 [tD t.name t.args,.int .i64 most,.int .i64 d] [.int .i64 (iY most d t)]:=by
 intro d
 induction d with
 | zero=>
   intro _ t _
   refine Pure.of_wp hT (nt:=_) (c:=_) Tryz.func32 rfl rfl rfl rfl (by kernel_rfl) ?_
   intro w0 ok0 β0
   repeat (refine gw rfl ?_;conv=>whnf)
   rw [show decide (((0:Nat):Int)<1)=true from rfl]
   conv=>whnf
   repeat (refine gw rfl ?_;conv=>whnf)
   refine ⟨by omega,?_⟩
   conv=>whnf
   repeat (refine gw rfl ?_;conv=>whnf)
   rw [iY]
 | succ d ih=>
   intro hd t ht
   have hok:=kF.1 ht
   refine Pure.of_wp hT (nt:=_) (c:=_) Tryz.func32 rfl rfl rfl rfl (by kernel_rfl) ?_
   intro w0 ok0 β0
   repeat (refine gw rfl ?_;conv=>whnf)
   rw [show decide (((d+1:Nat):Int)<1)=false from decide_eq_false (by omega)]
   conv=>whnf
   repeat (refine gw rfl ?_;conv=>whnf)
   refine WP.loop (α:=Nat×Int) (fun x=>⟨[(1,.d (.int .i64 most)),(2,.d (.int .i64 (d+1:Nat))),(3,.d (.ref [.str t.name,.list (t.args.map enT)] 0)),(7,.d (.int .i64 x.2)),(14,.d (.list (t.args.map enT))),(15,.d (.int .i64 t.args.length)),(16,.d (.int .i64 x.1))],[],[]⟩)
    (fun x=>x.1≤t.args.length∧1≤x.2∧x.2≤most+1002001∧iY most (d+1) t=Le most (iY most d) x.2 (t.args.drop x.1)) (fun x=>t.args.length-x.1) (0,1) [] [] ?_ ?_ ?_
   ·((conv=>whnf);repeat (first | exact ⟨⟩ | (refine ⟨by first | rfl | (simp;done) | (simp;omega),?_⟩;conv=>whnf)))
   ·exact ⟨Nat.zero_le _,Int.le_refl _,by omega,rfl⟩
   ·rintro ⟨i,n⟩ ⟨hi,h1,h2,h3⟩
    dsimp only at hi h1 h2 h3 ⊢
    repeat (refine gw rfl ?_;conv=>whnf)
    (split<;>rename_i hb<;>(try rw [hb])<;>(conv=>whnf))
    ·have hlt:i<t.args.length:=by simpa using hb
     clear hb
     rw [List.drop_eq_getElem_cons hlt,Le] at h3
     repeat (refine gw rfl ?_;conv=>whnf)
     (split<;>rename_i hb<;>(try rw [hb])<;>(conv=>whnf))
     ·have hn:(most:Int)<n:=by simpa using hb
      rw [if_pos hn] at h3
      repeat (refine gw rfl ?_;conv=>whnf)
      rw [h3]
     ·have hn:¬ (most:Int)<n:=by simpa using hb
      rw [if_neg hn] at h3
      have hp:=IQ most hm d (by omega) t.args[i]
      repeat (refine gw rfl ?_;conv=>whnf)
      refine ⟨by omega,_,Fg hlt,rfl,?_⟩
      conv=>whnf
      refine ⟨by omega,?_⟩
      rw [show ((d+1:Nat):Int)-1=(d:Nat) by omega]
      conv=>whnf
      refine .inl ⟨_,ih (by omega) t.args[i] (hok.2 _ (List.getElem_mem hlt)),.inl rfl,?_⟩
      conv=>whnf
      repeat (refine gw rfl ?_;conv=>whnf)
      refine ⟨by omega,?_⟩
      conv=>whnf
      repeat (refine gw rfl ?_;conv=>whnf)
      refine ⟨by omega,?_⟩
      conv=>whnf
      refine ⟨(i+1,n+iY most d t.args[i]),[],[],?_,⟨by dsimp only;omega,by dsimp only;omega,by dsimp only;omega,h3⟩,by dsimp only;omega⟩
      ((conv=>whnf);repeat (first | exact ⟨⟩ | (refine ⟨by first | rfl | (simp;done) | (simp;omega),?_⟩;conv=>whnf)))
    ·have:i=t.args.length:=by simp at hb;omega
     subst this
     rw [List.drop_length,Le] at h3
     repeat (refine gw rfl ?_;conv=>whnf)
     rw [h3]
theorem Tryz.Qn (most:Nat) (hm:most≤1000) (t:Tm) (ht:okT t):Pure Tryz.prog 12 [tD t.name t.args,.int .i64 most] [.bool (iq most t)]:=by
 refine Pure.of_wp hT (nt:=_) (c:=_) Tryz.func12 rfl rfl rfl rfl (by kernel_rfl) ?_
 intro w0 ok0 β0
 repeat (refine gw rfl ?_;conv=>whnf)
 refine .inl ⟨_,Tryz.parts most hm most (by omega) t ht,.inl rfl,?_⟩
 conv=>whnf
 repeat (refine gw rfl ?_;conv=>whnf)
 rfl
theorem Tryz.Wx (most:Nat) (hm:most≤1000) (l:List Tm) (hl:∀ x∈l,okT x) (hlen:l.length≤9223372036854775807):Pure Tryz.prog 13 [.list (l.map enT),.int .i64 most] [.bool (fV most l)]:=by
 refine Pure.of_wp hT (nt:=_) (c:=_) Tryz.func13 rfl rfl rfl rfl (by kernel_rfl) ?_
 intro w0 ok0 β0
 repeat (refine gw rfl ?_;conv=>whnf)
 (split<;>rename_i hb<;>(try rw [hb])<;>(conv=>whnf))
 ·have h:((most:Nat):Int)<l.length:=by simpa using hb
  rw [show fV most l=false by unfold fV;rw [decide_eq_false (by omega)];rfl]
  repeat (refine gw rfl ?_;conv=>whnf)
 ·have h:¬ ((most:Nat):Int)<l.length:=by simpa using hb
  have hs:fV most l=l.all (iq most):=by unfold fV;rw [decide_eq_true (by omega)];rfl
  rw [hs]
  clear hb
  repeat (refine gw rfl ?_;conv=>whnf)
  refine WP.loop (α:=Nat) (fun i=>⟨[(0,.d (.list (l.map enT))),(1,.d (.int .i64 most)),(11,.d (.int .i64 l.length)),(12,.d (.int .i64 i))],[],[]⟩)
   (fun i=>i≤l.length∧∀ j (h:j<l.length),j<i→iq most l[j]=true) (fun i=>l.length-i) 0 [] [] ?_ ?_ ?_
  ·((conv=>whnf);repeat (first | exact ⟨⟩ | (refine ⟨by first | rfl | (simp;done) | (simp;omega),?_⟩;conv=>whnf)))
  ·exact ⟨Nat.zero_le _,fun j _ hj=>by omega⟩
  ·rintro i ⟨hi,hx⟩
   repeat (refine gw rfl ?_;conv=>whnf)
   (split<;>rename_i hb<;>(try rw [hb])<;>(conv=>whnf))
   ·have hlt:i<l.length:=by simpa using hb
    clear hb
    repeat (refine gw rfl ?_;conv=>whnf)
    refine ⟨by omega,_,Fg hlt,rfl,?_⟩
    conv=>whnf
    refine .inl ⟨_,Tryz.Qn most hm l[i] (hl _ (List.getElem_mem hlt)),.inl rfl,?_⟩
    conv=>whnf
    cases hc:iq most l[i] with
    | true=>
      conv=>whnf
      repeat (refine gw rfl ?_;conv=>whnf)
      refine ⟨by omega,?_⟩
      conv=>whnf
      refine ⟨i+1,[],[],?_,⟨by omega,fun j h hj=>?_⟩,by omega⟩
      ·((conv=>whnf);repeat (first | exact ⟨⟩ | (refine ⟨by first | rfl | (simp;done) | (simp;omega),?_⟩;conv=>whnf)))
      ·rcases Nat.lt_or_ge j i with h1 | h1
       ·exact hx j h h1
       ·obtain rfl:j=i:=by omega
        exact hc
    | false=>
      rw [show l.all (iq most)=false from List.all_eq_false.2 ⟨l[i],List.getElem_mem hlt,by rw [hc];simp⟩]
      conv=>whnf
      repeat (refine gw rfl ?_;conv=>whnf)
   ·have:i=l.length:=by simp at hb;omega
    subst this
    rw [show l.all (iq most)=true from List.all_eq_true.2 fun x hxm=>by
     obtain ⟨j,hj,rfl⟩:=List.mem_iff_getElem.1 hxm
     exact hx j hj hj]
    repeat (refine gw rfl ?_;conv=>whnf)
end Go.Proofs.YtbhfbliodeagmaaGreatDoor
namespace Go.Own
def vX (a b:Sn):Int:=if ql a.1 b.1≠0 then ql a.1 b.1 else jd a.2 b.2
def qC:List Sn→List Sn→Bool
 | x::a,y::b=>decide (vX x y=0)&&qC a b
 | _,_=>true
def pU (a b:List Sn):Bool:=decide (a.length=b.length)&&qC a b
theorem BJ {a b:List Sn} {i:Nat} (h1:i<a.length) (h2:i<b.length):qC (a.drop i) (b.drop i)=(decide (vX a[i] b[i]=0)&&qC (a.drop (i+1)) (b.drop (i+1))):=by
 rw [List.drop_eq_getElem_cons h1,List.drop_eq_getElem_cons h2];rfl
theorem FZ {a b:List Sn} {i:Nat} (h:a.length≤i):qC (a.drop i) (b.drop i)=true:=by
 rw [List.drop_of_length_le h];rfl
def oZ (l:List Sn):Bool:=decide ((l.length:Int)≤8)&&l.all fun s=>iq ((20:Nat):Int) s.1&&fV ((20:Nat):Int) s.2
end Go.Own
namespace Go.Proofs.YtbhfbliodeagmaaGreatDoor
open Go Go.Abs Go.Own
attribute [local irreducible] WP
theorem Tryz.NJ (a b:Sn) (ha:okS a) (hb:okS b) (hn:a.2.length≤10000000):Pure Tryz.prog 6 [enS a,enS b] [.int .i64 (vX a b)]:=by
 obtain ⟨m,ps⟩:=a
 obtain ⟨u,qs⟩:=b
 obtain ⟨a1,a2⟩:=ha
 obtain ⟨b1,b2⟩:=hb
 simp only at a1 a2 b1 b2 hn
 refine Pure.of_wp hT (nt:=_) (c:=_) Tryz.func6 rfl rfl rfl rfl (by kernel_rfl) ?_
 intro w0 ok0 β0
 repeat (refine gw rfl ?_;conv=>whnf)
 refine .inl ⟨_,Tryz.compare m u a1 b1,.inl rfl,?_⟩
 conv=>whnf
 repeat (refine gw rfl ?_;conv=>whnf)
 (split<;>rename_i hb<;>(try rw [hb])<;>(conv=>whnf))
 ·have h:ql m u≠0:=by simpa using hb
  repeat (refine gw rfl ?_;conv=>whnf)
  simp [vX,h]
 ·have h:ql m u=0:=by simpa using hb
  repeat (refine gw rfl ?_;conv=>whnf)
  refine .inl ⟨_,Tryz.TW ps qs (by omega) a2 b2 (fun x _=>Tryz.compare x),.inl rfl,?_⟩
  conv=>whnf
  repeat (refine gw rfl ?_;conv=>whnf)
  simp [vX,h]
theorem Tryz.Eu (a b:Sn) (ha:okS a) (hb:okS b) (hn:a.2.length≤10000000):Pure Tryz.prog 7 [enS a,enS b] [.int .i64 (vX a b)]:=by
 obtain ⟨m,ps⟩:=a
 obtain ⟨u,qs⟩:=b
 obtain ⟨a1,a2⟩:=ha
 obtain ⟨b1,b2⟩:=hb
 simp only at a1 a2 b1 b2 hn
 refine Pure.of_wp hT (nt:=_) (c:=_) Tryz.func7 rfl rfl rfl rfl (by kernel_rfl) ?_
 intro w0 ok0 β0
 repeat (refine gw rfl ?_;conv=>whnf)
 refine .inl ⟨_,Tryz.Hy m u a1 b1,.inl rfl,?_⟩
 conv=>whnf
 repeat (refine gw rfl ?_;conv=>whnf)
 (split<;>rename_i hb<;>(try rw [hb])<;>(conv=>whnf))
 ·have h:ql m u≠0:=by simpa using hb
  repeat (refine gw rfl ?_;conv=>whnf)
  simp [vX,h]
 ·have h:ql m u=0:=by simpa using hb
  repeat (refine gw rfl ?_;conv=>whnf)
  refine .inl ⟨_,Tryz.HY ps qs (by omega) a2 b2 (fun x _=>Tryz.Hy x),.inl rfl,?_⟩
  conv=>whnf
  repeat (refine gw rfl ?_;conv=>whnf)
  simp [vX,h]
theorem Tryz.ahE (a b:List Sn) (hl:a.length≤1000000000) (ha:∀ s∈a,okS s∧s.2.length≤10000000) (hq:∀ s∈b,okS s):Pure Tryz.prog 9 [.list (a.map enS),.list (b.map enS)] [.bool (pU a b)]:=by
 refine Pure.of_wp hT (nt:=_) (c:=_) Tryz.func9 rfl rfl rfl rfl (by kernel_rfl) ?_
 intro w0 ok0 β0
 repeat (refine gw rfl ?_;conv=>whnf)
 (split<;>rename_i hb<;>(try rw [hb])<;>(conv=>whnf))
 ·have h:a.length≠b.length:=by
   intro e;simp [e] at hb
  repeat (refine gw rfl ?_;conv=>whnf)
  simp [pU,h]
 ·have h:a.length=b.length:=by
   have:(a.length:Int)=b.length:=by simpa using hb
   omega
  clear hb
  rw [show pU a b=qC a b by simp [pU,h]]
  repeat (refine gw rfl ?_;conv=>whnf)
  refine WP.loop (α:=Nat) (fun i=>⟨[(0,.d (.list (a.map enS))),(1,.d (.list (b.map enS))),(5,.d (.int .i64 i))],[],[]⟩)
   (fun i=>i≤a.length∧qC a b=qC (a.drop i) (b.drop i)) (fun i=>a.length-i) 0 [] [] ?_ ?_ ?_
  ·((conv=>whnf);repeat (first | exact ⟨⟩ | (refine ⟨by first | rfl | (simp;done) | (simp;omega),?_⟩;conv=>whnf)))
  ·simp
  ·rintro i ⟨hi,hs⟩
   repeat (refine gw rfl ?_;conv=>whnf)
   (split<;>rename_i hb<;>(try rw [hb])<;>(conv=>whnf))
   ·have h1:i<a.length:=by simpa using hb
    have h2:i<b.length:=by omega
    clear hb
    rw [BJ h1 h2] at hs
    have hA:=ha _ (List.getElem_mem h1)
    have hB:=hq _ (List.getElem_mem h2)
    repeat (refine gw rfl ?_;conv=>whnf)
    refine ⟨by omega,_,Pj h1,rfl,?_⟩
    conv=>whnf
    refine ⟨by omega,_,Pj h2,rfl,?_⟩
    conv=>whnf
    refine .inl ⟨_,Tryz.Eu a[i] b[i] hA.1 hB hA.2,.inl rfl,?_⟩
    conv=>whnf
    repeat (refine gw rfl ?_;conv=>whnf)
    (split<;>rename_i hb<;>(try rw [hb])<;>(conv=>whnf))
    ·have h0:vX a[i] b[i]≠0:=by simpa using hb
     rw [decide_eq_false h0,Bool.false_and] at hs
     repeat (refine gw rfl ?_;conv=>whnf)
     rw [hs]
    ·have h0:vX a[i] b[i]=0:=by simpa using hb
     rw [decide_eq_true h0,Bool.true_and] at hs
     repeat (refine gw rfl ?_;conv=>whnf)
     refine ⟨by omega,?_⟩
     conv=>whnf
     refine ⟨i+1,[],[],?_,⟨by omega,hs⟩,by omega⟩
     ((conv=>whnf);repeat (first | exact ⟨⟩ | (refine ⟨by first | rfl | (simp;done) | (simp;omega),?_⟩;conv=>whnf)))
   ·have:i=a.length:=by simp at hb;omega
    rw [FZ (by omega)] at hs
    repeat (refine gw rfl ?_;conv=>whnf)
    rw [hs]
theorem Tryz.aiU (a b:List Sn) (f:Nat) (r:D) (hl:a.length≤1000000000) (hf:∀ x∈a,∀ y∈b,Pure Tryz.prog f [enS x,enS y,r] [.bool (decide (vX x y=0))]) :
  Pure Tryz.prog 64 [.list (a.map enS),.list (b.map enS),.fn f [r]] [.bool (pU a b)]:=by
 refine Pure.of_wp hT (nt:=_) (c:=_) Tryz.func64 rfl rfl rfl rfl (by kernel_rfl) ?_
 intro w0 ok0 β0
 repeat (refine gw rfl ?_;conv=>whnf)
 (split<;>rename_i hb<;>(try rw [hb])<;>(conv=>whnf))
 ·have h:a.length≠b.length:=by
   intro e;simp [e] at hb
  repeat (refine gw rfl ?_;conv=>whnf)
  simp [pU,h]
 ·have h:a.length=b.length:=by
   have:(a.length:Int)=b.length:=by simpa using hb
   omega
  clear hb
  rw [show pU a b=qC a b by simp [pU,h]]
  repeat (refine gw rfl ?_;conv=>whnf)
  refine WP.loop (α:=Nat) (fun i=>⟨[(1,.d (.list (b.map enS))),(2,.d (.fn f [r])),(15,.d (.list (a.map enS))),(16,.d (.int .i64 a.length)),(17,.d (.int .i64 i))],[],[]⟩)
   (fun i=>i≤a.length∧qC a b=qC (a.drop i) (b.drop i)) (fun i=>a.length-i) 0 [] [] ?_ ?_ ?_
  ·((conv=>whnf);repeat (first | exact ⟨⟩ | (refine ⟨by first | rfl | (simp;done) | (simp;omega),?_⟩;conv=>whnf)))
  ·simp
  ·rintro i ⟨hi,hs⟩
   repeat (refine gw rfl ?_;conv=>whnf)
   (split<;>rename_i hb<;>(try rw [hb])<;>(conv=>whnf))
   ·have h1:i<a.length:=by simpa using hb
    have h2:i<b.length:=by omega
    clear hb
    rw [BJ h1 h2] at hs
    repeat (refine gw rfl ?_;conv=>whnf)
    refine ⟨by omega,_,Pj h1,rfl,?_⟩
    conv=>whnf
    repeat (refine gw rfl ?_;conv=>whnf)
    refine ⟨by omega,_,Pj h2,rfl,?_⟩
    conv=>whnf
    repeat (refine gw rfl ?_;conv=>whnf)
    refine .inl ⟨_,hf a[i] (List.getElem_mem h1) b[i] (List.getElem_mem h2),.inl rfl,?_⟩
    conv=>whnf
    cases hc:decide (vX a[i] b[i]=0) with
    | true=>
      rw [hc,Bool.true_and] at hs
      conv=>whnf
      repeat (refine gw rfl ?_;conv=>whnf)
      refine ⟨by omega,?_⟩
      conv=>whnf
      refine ⟨i+1,[],[],?_,⟨by omega,hs⟩,by omega⟩
      ((conv=>whnf);repeat (first | exact ⟨⟩ | (refine ⟨by first | rfl | (simp;done) | (simp;omega),?_⟩;conv=>whnf)))
    | false=>
      rw [hc,Bool.false_and] at hs
      conv=>whnf
      repeat (refine gw rfl ?_;conv=>whnf)
      rw [hs]
   ·have:i=a.length:=by simp at hb;omega
    rw [FZ (by omega)] at hs
    repeat (refine gw rfl ?_;conv=>whnf)
    rw [hs]
theorem Tryz.akg (a b:Sn) (ha:okS a) (hb:okS b) (hn:a.2.length≤10000000):Pure Tryz.prog 65 [enS a,enS b,.ref [.fn 6 []] 0] [.bool (decide (vX a b=0))]:=by
 refine Pure.of_wp hT (nt:=_) (c:=_) Tryz.func65 rfl rfl rfl rfl (by kernel_rfl) ?_
 intro w0 ok0 β0
 repeat (refine gw rfl ?_;conv=>whnf)
 refine .inl ⟨_,Tryz.NJ a b ha hb hn,.inl rfl,?_⟩
 conv=>whnf
 repeat (refine gw rfl ?_;conv=>whnf)
 by_cases h:vX a b=0<;>simp [h]
theorem Tryz.aku (a b:List Sn) (hl:a.length≤1000000000) (ha:∀ s∈a,okS s∧s.2.length≤10000000) (hq:∀ s∈b,okS s):Pure Tryz.prog 8 [.list (a.map enS),.list (b.map enS)] [.bool (pU a b)]:=by
 have ce:=Tryz.aiU a b 65 (.ref [.fn 6 []] 0) hl fun x hx y hy=>Tryz.akg x y (ha x hx).1 (hq y hy) (ha x hx).2
 have ca:Pure Tryz.prog 26 [.list (a.map enS),.list (b.map enS),.fn 6 []] [.bool (pU a b)]:=by
  refine Pure.of_wp hT (nt:=_) (c:=_) Tryz.func26 rfl rfl rfl rfl (by kernel_rfl) ?_
  intro w0 ok0 β0
  repeat (refine gw rfl ?_;conv=>whnf)
  refine .inl ⟨_,ce,.inl rfl,?_⟩
  conv=>whnf
  repeat (refine gw rfl ?_;conv=>whnf)
 refine Pure.of_wp hT (nt:=_) (c:=_) Tryz.func8 rfl rfl rfl rfl (by kernel_rfl) ?_
 intro w0 ok0 β0
 repeat (refine gw rfl ?_;conv=>whnf)
 refine .inl ⟨_,ca,.inl rfl,?_⟩
 conv=>whnf
 repeat (refine gw rfl ?_;conv=>whnf)
theorem Tryz.short (l:List Sn) (hl:l.length≤1000000000) (hok:∀ s∈l,okS s∧s.2.length≤10000000):Pure Tryz.prog 4 [.list (l.map enS)] [.bool (oZ l)]:=by
 refine Pure.of_wp hT (nt:=_) (c:=_) Tryz.func4 rfl rfl rfl rfl (by kernel_rfl) ?_
 intro w0 ok0 β0
 repeat (refine gw rfl ?_;conv=>whnf)
 (split<;>rename_i hb<;>(try rw [hb])<;>(conv=>whnf))
 ·have h:(8:Int)<l.length:=by simpa using hb
  repeat (refine gw rfl ?_;conv=>whnf)
  rw [show oZ l=false by unfold oZ;rw [decide_eq_false (by omega)];rfl]
 ·have h:¬ (8:Int)<l.length:=by simpa using hb
  clear hb
  have hs:oZ l=l.all fun s=>iq ((20:Nat):Int) s.1&&fV ((20:Nat):Int) s.2:=by unfold oZ;rw [decide_eq_true (by omega)];rfl
  rw [hs]
  repeat (refine gw rfl ?_;conv=>whnf)
  refine WP.loop (α:=Nat) (fun i=>⟨[(0,.d (.list (l.map enS))),(3,.d (.int .i64 i))],[],[]⟩)
   (fun i=>i≤l.length∧∀ j (h:j<l.length),j<i→(iq ((20:Nat):Int) l[j].1&&fV ((20:Nat):Int) l[j].2)=true) (fun i=>l.length-i) 0 [] [] ?_ ?_ ?_
  ·((conv=>whnf);repeat (first | exact ⟨⟩ | (refine ⟨by first | rfl | (simp;done) | (simp;omega),?_⟩;conv=>whnf)))
  ·exact ⟨Nat.zero_le _,fun j _ hj=>by omega⟩
  ·rintro i ⟨hi,hx⟩
   repeat (refine gw rfl ?_;conv=>whnf)
   (split<;>rename_i hb<;>(try rw [hb])<;>(conv=>whnf))
   ·have h1:i<l.length:=by simpa using hb
    clear hb
    have hA:=hok _ (List.getElem_mem h1)
    repeat (refine gw rfl ?_;conv=>whnf)
    refine ⟨by omega,_,Pj h1,rfl,?_⟩
    conv=>whnf
    refine .inl ⟨_,Tryz.Qn 20 (by omega) l[i].1 hA.1.1,.inl rfl,?_⟩
    conv=>whnf
    have hstep:(iq ((20:Nat):Int) l[i].1&&fV ((20:Nat):Int) l[i].2)=true→∀ j (h:j<l.length),j<i+1→(iq ((20:Nat):Int) l[j].1&&fV ((20:Nat):Int) l[j].2)=true:=fun e j h hj=>by
     rcases Nat.lt_or_ge j i with h1 | h1
     ·exact hx j h h1
     ·obtain rfl:j=i:=by omega
      exact e
    have hno:(iq ((20:Nat):Int) l[i].1&&fV ((20:Nat):Int) l[i].2)=false→(l.all fun s=>iq ((20:Nat):Int) s.1&&fV ((20:Nat):Int) s.2)=false:=fun e=>List.all_eq_false.2 ⟨l[i],List.getElem_mem h1,by rw [e];simp⟩
    cases hc:iq ((20:Nat):Int) l[i].1 with
    | false=>
      rw [hno (by rw [hc];rfl)]
      conv=>whnf
      repeat (refine gw rfl ?_;conv=>whnf)
    | true=>
      conv=>whnf
      refine ⟨by omega,_,Pj h1,rfl,?_⟩
      conv=>whnf
      refine .inl ⟨_,Tryz.Wx 20 (by omega) l[i].2 hA.1.2 (by omega),.inl rfl,?_⟩
      conv=>whnf
      cases hd:fV ((20:Nat):Int) l[i].2 with
      | false=>
        rw [hno (by rw [hc,hd];rfl)]
        conv=>whnf
        repeat (refine gw rfl ?_;conv=>whnf)
      | true=>
        conv=>whnf
        repeat (refine gw rfl ?_;conv=>whnf)
        refine ⟨by omega,?_⟩
        conv=>whnf
        refine ⟨i+1,[],[],?_,⟨by omega,hstep (by rw [hc,hd];rfl)⟩,by omega⟩
        ((conv=>whnf);repeat (first | exact ⟨⟩ | (refine ⟨by first | rfl | (simp;done) | (simp;omega),?_⟩;conv=>whnf)))
   ·have:i=l.length:=by simp at hb;omega
    rw [show (l.all fun s=>iq ((20:Nat):Int) s.1&&fV ((20:Nat):Int) s.2)=true from List.all_eq_true.2 fun x hxm=>by
     obtain ⟨j,hj,rfl⟩:=List.mem_iff_getElem.1 hxm
     exact hx j hj (by omega)]
    repeat (refine gw rfl ?_;conv=>whnf)
end Go.Proofs.YtbhfbliodeagmaaGreatDoor
namespace Go.Proofs.YtbhfbliodeagmaaGreatDoor
open Go Go.Abs Go.Own Go.RowKit
theorem pure_run {P:Program} {f:FuncId} {ds:List D} {r:D} (h:Pure P f ds [r]) (w:World) (vs:Array Value) (hs:vs.size=ds.length) (hrd:∀ (i:Nat) v d,vs[i]?=some v→ds[i]?=some d→RdD (fun b=>b<w.heap.size) w v d) :
  Calls P f vs w fun e w'=>∃ v ok,e = .returned v∧Below w.heap.size w w'∧RdD ok w' v r:=
 (h.calls (fun b=>b<w.heap.size) w vs (fun g hg=>absurd (aiq g) hg) (fun _ h=>h) hs hrd).mono fun e w' ⟨v,he,hf,hr⟩=>⟨v,_,he,⟨hf.os,hf.tape,hf.output,hf.size,fun b hb=>hf.lC b hb⟩,hr⟩
theorem ahG {P:Program} {f:FuncId} {d:D} {r:D} (h:Pure P f [d] [r]) (w:World) (v:Value) (hd:RdD (fun b=>b<w.heap.size) w v d) :
  Calls P f #[v] w fun e w'=>∃ v ok,e = .returned v∧Below w.heap.size w w'∧RdD ok w' v r:=
 pure_run h w #[v] rfl fun i u e hu he=>by
  match i with
  | 0=>simp at hu he;subst hu;subst he;exact hd
  | i+1=>simp at hu
theorem abS {P:Program} {f:FuncId} {d1 d2:D} {r:D} (h:Pure P f [d1,d2] [r]) (w:World) (v1 v2:Value) (h1:RdD (fun b=>b<w.heap.size) w v1 d1) (h2:RdD (fun b=>b<w.heap.size) w v2 d2) :
  Calls P f #[v1,v2] w fun e w'=>∃ v ok,e = .returned v∧Below w.heap.size w w'∧RdD ok w' v r:=
 pure_run h w #[v1,v2] rfl fun i u e hu he=>by
  match i with
  | 0=>simp at hu he;subst hu;subst he;exact h1
  | 1=>simp at hu he;subst hu;subst he;exact h2
  | i+2=>simp at hu
theorem iH {w W:World} (hB:Below w.heap.size w W) {v:Value} {d:D} (h:RdD (fun b=>b<w.heap.size) w v d):RdD (fun b=>b<W.heap.size) W v d:=
 h.mono (fun q hq=>hB.block q hq) (fun q hq=>Nat.lt_of_lt_of_le hq hB.size)
theorem akz {ok:Nat→Prop} {w:World} {u0 u1 u2:Value} {s:Sn} (h:RdD ok w (.agg #[u0,u1]) (enT s.1)) (hp:RdD ok w u2 (.list (s.2.map enT))):RdD ok w (.agg #[u0,u1,u2]) (enS s):=by
 obtain ⟨⟨n,l⟩,ps⟩:=s
 simp only at h hp
 obtain ⟨u,he,hu⟩:=rdt h
 have h0:u0 = .string ⟨n.toArray⟩∧u1=u:=by simpa using he
 obtain ⟨rfl,rfl⟩:=h0
 rw [enT,qY] at h
 cases h with
 | agg _ _ hl h1 h2=>
   refine .agg _ _ rfl (fun j v c hv hc=>?_) fun j v c hv hc=>?_
   ·match j,hv,hc with
    | 0,hv,hc=>simp at hv hc;subst hv;subst hc;exact h1 0 _ _ rfl rfl
    | 1,hv,hc=>simp at hv hc;subst hv;subst hc;exact h1 1 _ _ rfl rfl
    | 2,hv,hc=>simp at hv hc;subst hv;subst hc;exact hp
    | j+3,hv,_=>simp at hv
   ·match j,hv,hc with
    | 0,hv,hc=>simp at hv hc;subst hv;subst hc;exact h2 0 _ _ rfl rfl
    | 1,hv,hc=>simp at hv hc;subst hv;subst hc;exact h2 1 _ _ rfl rfl
    | 2,hv,hc=>simp at hv hc;subst hv;subst hc;exact ⟨by obtain ⟨a,c,e,_⟩:=rdl hp;rw [e];rfl,rfl⟩
    | j+3,hv,_=>simp at hv
end Go.Proofs.YtbhfbliodeagmaaGreatDoor
namespace Go.Proofs
open Go.RowKit Go.Shelf Go.Proofs.YtbhfbliodeagmaaGreatDoor Go.Own
set_option maxHeartbeats 2000000 in
set_option maxRecDepth 100000 in
theorem Tryz.anN (a b:List Sn) (w:World) (va vb:Value) (ra:Abs.RdD (fun k=>k<w.heap.size) w va (.list (a.map enS))) (rb:Abs.RdD (fun k=>k<w.heap.size) w vb (.list (b.map enS)))
  (ha:∀ s∈a,okS s∧s.2.length≤10000000) (hb:∀ s∈b,okS s∧s.2.length≤10000000) (hal:a.length≤10000000) (hbl:b.length≤10000000) (hat:(bY a).length≤1000000000)
  (hA:∀ W,Below w.heap.size w W→Calls Tryz.prog 5 #[] W fun e w'=>e = .returned (.bool true)∧Below W.heap.size W w') :
  Calls Tryz.prog 3 #[va,vb] w fun e w'=>e = .returned (.bool true)∧Below w.heap.size w w':=by
 have cSa:∀ W,Below w.heap.size w W→Calls Tryz.prog 4 #[va] W fun e w'=>e = .returned (.bool (oZ a))∧Below W.heap.size W w':=fun W hB=>(ahG (Tryz.short a (by omega) ha) W va (iH hB ra)).mono fun e w' ⟨v,ok,he,hb,hr⟩=>by cases hr;exact ⟨he,hb⟩
 have cSb:∀ W,Below w.heap.size w W→Calls Tryz.prog 4 #[vb] W fun e w'=>e = .returned (.bool (oZ b))∧Below W.heap.size W w':=fun W hB=>(ahG (Tryz.short b (by omega) hb) W vb (iH hB rb)).mono fun e w' ⟨v,ok,he,hb,hr⟩=>by cases hr;exact ⟨he,hb⟩
 have cP:∀ W,Below w.heap.size w W→Calls Tryz.prog 8 #[va,vb] W fun e w'=>e = .returned (.bool (pU a b))∧Below W.heap.size W w':=fun W hB=>(abS (Tryz.aku a b (by omega) ha (fun s hs=>(hb s hs).1)) W va vb (iH hB ra) (iH hB rb)).mono fun e w' ⟨v,ok,he,hb,hr⟩=>by cases hr;exact ⟨he,hb⟩
 have cQ:∀ W,Below w.heap.size w W→Calls Tryz.prog 9 #[va,vb] W fun e w'=>e = .returned (.bool (pU a b))∧Below W.heap.size W w':=fun W hB=>(abS (Tryz.ahE a b (by omega) ha (fun s hs=>(hb s hs).1)) W va vb (iH hB ra) (iH hB rb)).mono fun e w' ⟨v,ok,he,hb,hr⟩=>by cases hr;exact ⟨he,hb⟩
 have cT:∀ W,Below w.heap.size w W→Calls Tryz.prog 10 #[va] W fun e w'=>e = .returned (.string ⟨(bY a).toArray⟩)∧Below W.heap.size W w':=fun W hB=>Tryz.ahw a W va (iH hB ra) hat (fun s hs=>(ha s hs).2)
 have cR:∀ W,Below w.heap.size w W→Calls Tryz.prog 11 #[va] W fun e w'=>e = .returned (.string ⟨(bY a).toArray⟩)∧Below W.heap.size W w':=fun W hB=>(ahG (Tryz.ahx a (by omega) (fun s hs=>(ha s hs).1) (fun s hs=>(ha s hs).2) hat) W va (iH hB ra)).mono fun e w' ⟨v,ok,he,hb,hr⟩=>by cases hr;exact ⟨he,hb⟩
 have hcmp:Hid (∀ (i j:Nat) (h1:i<a.length) (h2:j<b.length) (u0 u1 u2 v0 v1 v2:Value),Abs.RdD (fun k=>k<w.heap.size) w (.agg #[u0,u1,u2]) (enS a[i])→Abs.RdD (fun k=>k<w.heap.size) w (.agg #[v0,v1,v2]) (enS b[j]) →
   ∃ x:Int,(∀ W,Below w.heap.size w W→Calls Tryz.prog 6 #[.agg #[u0,u1,u2],.agg #[v0,v1,v2]] W fun e w'=>e = .returned (.int .i64 x)∧Below W.heap.size W w') ∧
     (∀ W,Below w.heap.size w W→Calls Tryz.prog 7 #[.agg #[u0,u1,u2],.agg #[v0,v1,v2]] W fun e w'=>e = .returned (.int .i64 x)∧Below W.heap.size W w')):=Any.hidJ fun i j h1 h2 u0 u1 u2 v0 v1 v2 r1 r2=>by
  have hA:=ha _ (List.getElem_mem h1)
  have hB:=hb _ (List.getElem_mem h2)
  refine ⟨vX a[i] b[j],fun W hW=>?_,fun W hW=>?_⟩
  ·exact (abS (Tryz.NJ a[i] b[j] hA.1 hB.1 hA.2) W _ _ (iH hW r1) (iH hW r2)).mono fun e w' ⟨v,ok,he,hb,hr⟩=>by cases hr;exact ⟨he,hb⟩
  ·exact (abS (Tryz.Eu a[i] b[j] hA.1 hB.1 hA.2) W _ _ (iH hW r1) (iH hW r2)).mono fun e w' ⟨v,ok,he,hb,hr⟩=>by cases hr;exact ⟨he,hb⟩
 obtain ⟨pa,ca,rfl,hra⟩:=rdv ra
 obtain ⟨pb,cb,rfl,hrb⟩:=rdv rb
 have HA:=Any.hidJ hra
 have HBb:=Any.hidJ hrb
 have hSa:=Any.hidJ cSa
 have hSb:=Any.hidJ cSb
 have hP:=Any.hidJ cP
 have hQ:=Any.hidJ cQ
 have hT:=Any.hidJ cT
 have hR:=Any.hidJ cR
 have hAl:=Any.hidJ hA
 clear hra hrb ra rb ha hb cSa cSb cP cQ cT cR hA
 generalize oZ a=sa at hSa
 generalize oZ b=sb at hSb
 go_enter Tryz.func3,Tryz.ntmps3
 have hA0:=Any.hidJ (Below.refl w.heap.size w)
 cases sa with
 | false=>
   go_wp2_with (first
    | (go_at_call 4;refine (hSa.out _ hA0.out).mono ?_;rintro e w1 ⟨rfl,h1⟩)
    | (go_at_call 5;refine (hAl.out _ h1).mono ?_;rintro e w2 ⟨rfl,h2⟩))
   go_ret
   exact ⟨rfl,h1.trans (h2.mono h1.size)⟩
 | true=>
   cases sb with
   | false=>
     go_wp2_with (first
      | (go_at_call 4;refine (hSa.out _ hA0.out).mono ?_;rintro e w1 ⟨rfl,h1⟩;have H1:=Any.hidJ h1;clear h1 hA0)
      | (go_at_call 4;refine (hSb.out _ H1.out).mono ?_;rintro e w2 ⟨rfl,h2⟩;have H2:=Any.hidJ (H1.out.trans (h2.mono H1.out.size));clear h2)
      | (go_at_call 5;refine (hAl.out _ H2.out).mono ?_;rintro e w3 ⟨rfl,h3⟩))
     go_ret
     exact ⟨rfl,H2.out.trans (h3.mono H2.out.size)⟩
   | true=>
     go_wp2_with (first
      | (go_at_call 4;refine (hSa.out _ hA0.out).mono ?_;rintro e w1 ⟨rfl,h1⟩;have H1:=Any.hidJ h1;clear h1 hA0)
      | (go_at_call 4;refine (hSb.out _ H1.out).mono ?_;rintro e w2 ⟨rfl,h2⟩;have H2:=Any.hidJ (H1.out.trans (h2.mono H1.out.size));clear h2))
     go_loopw [5] (fun i wr=>∃ k:Nat,k≤a.length∧i = .int .i64 k∧Hid (Below w.heap.size w wr)) (fun i _=>a.length-(intOf i).toNat)
     case atStart=>exact ⟨0,Nat.zero_le _,rfl,H2⟩
     case round=>
      obtain ⟨k,hk,rfl,HB⟩:=hrel
      by_cases hka:k<a.length
      ·by_cases hkb:k<b.length
       ·obtain ⟨ka,oa,rfl,hka1,_,_,hca⟩:=HA.out.resolve_left (fun e=>by rw [e] at hka;cases hka)
        obtain ⟨kb,ob,rfl,hkb1,_,_,hcb⟩:=HBb.out.resolve_left (fun e=>by rw [e] at hkb;cases hkb)
        obtain ⟨u0,u1,u2,g0,g1,g2,r1,r2⟩:=hca k hka
        obtain ⟨v0,v1,v2,f0,f1,f2,q1,q2⟩:=hcb k hkb
        obtain ⟨x,hC,hD⟩:=hcmp.out k k hka hkb u0 u1 u2 v0 v1 v2 (akz r1 r2) (akz q1 q2)
        have d0:wr.cell? ⟨ka,oa+k*3,none⟩=some u0:=(HB.out.cell (p:=⟨ka,oa+k*3,none⟩) hka1).trans g0
        have d1:wr.cell? ⟨ka,oa+k*3+1,none⟩=some u1:=(HB.out.cell (p:=⟨ka,oa+k*3+1,none⟩) hka1).trans g1
        have d2:wr.cell? ⟨ka,oa+k*3+2,none⟩=some u2:=(HB.out.cell (p:=⟨ka,oa+k*3+2,none⟩) hka1).trans g2
        have e0:wr.cell? ⟨kb,ob+k*3,none⟩=some v0:=(HB.out.cell (p:=⟨kb,ob+k*3,none⟩) hkb1).trans f0
        have e1:wr.cell? ⟨kb,ob+k*3+1,none⟩=some v1:=(HB.out.cell (p:=⟨kb,ob+k*3+1,none⟩) hkb1).trans f1
        have e2:wr.cell? ⟨kb,ob+k*3+2,none⟩=some v2:=(HB.out.cell (p:=⟨kb,ob+k*3+2,none⟩) hkb1).trans f2
        have HC:=Any.hidJ hC
        have HD:=Any.hidJ hD
        have hzr:=HB.out.size
        have HLa:=Any.hidJ hka
        clear g0 g1 g2 f0 f1 f2 r1 r2 q1 q2 hC hD hca hcb
        go_wp2_with fail
        go_region_held3 (fun w'=>w'.cell? ⟨ka,oa+k*3,none⟩=some u0∧w'.cell? ⟨ka,oa+k*3+1,none⟩=some u1∧w'.cell? ⟨ka,oa+k*3+2,none⟩=some u2∧w'.cell? ⟨kb,ob+k*3,none⟩=some v0∧w'.cell? ⟨kb,ob+k*3+1,none⟩=some v1∧w'.cell? ⟨kb,ob+k*3+2,none⟩=some v2) (go_keep)
         (first
          | (go_at_call 6;refine (HC.out _ HB.out.drew).mono ?_;rintro e w1 ⟨rfl,hb1⟩;have z1:wr.heap.size≤w1.heap.size:=hb1.size;have m0:=fJ hb1 (show ka<wr.heap.size by omega) d0;have m1:=fJ hb1 (show ka<wr.heap.size by omega) d1;have m2:=fJ hb1 (show ka<wr.heap.size by omega) d2;have m3:=fJ hb1 (show kb<wr.heap.size by omega) e0;have m4:=fJ hb1 (show kb<wr.heap.size by omega) e1;have m5:=fJ hb1 (show kb<wr.heap.size by omega) e2)
          | (go_at_call 7;refine (HD.out w1 (HB.out.drew.trans (hb1.mono (show w.heap.size≤wr.heap.size by omega)))).mono ?_;rintro e w2 ⟨rfl,hb2⟩;have z2:=hb2.size;have n0:=fJ hb2 (show ka<w1.heap.size by omega) m0;have n1:=fJ hb2 (show ka<w1.heap.size by omega) m1;have n2:=fJ hb2 (show ka<w1.heap.size by omega) m2;have n3:=fJ hb2 (show kb<w1.heap.size by omega) m3;have n4:=fJ hb2 (show kb<w1.heap.size by omega) m4;have n5:=fJ hb2 (show kb<w1.heap.size by omega) m5))
        have HB2:=Any.hidJ ((HB.out.drew.trans (hb1.mono (show w.heap.size≤wr.heap.size by omega))).trans (hb2.mono (by omega)))
        clear hb1 hb2
        go_wp2_with fail
        go_roundw
        case rel=>exact ⟨k+1,by have:=HLa.out;omega,by go_num,HB2⟩
        case measure=>have:=HLa.out;simp [intOf];omega
       ·go_wp2_with (first
         | (go_at_call 5;refine (hAl.out wr HB.out).mono ?_;rintro e w3 ⟨rfl,h3⟩;have H3:=Any.hidJ (HB.out.trans (h3.mono HB.out.size));clear h3)
         | (go_at_call 8;refine (hP.out w3 H3.out).mono ?_;rintro e w4 ⟨rfl,h4⟩;have H4:=Any.hidJ (H3.out.trans (h4.mono H3.out.size));clear h4)
         | (go_at_call 9;refine (hQ.out w4 H4.out).mono ?_;rintro e w5 ⟨rfl,h5⟩;have H5:=Any.hidJ (H4.out.trans (h5.mono H4.out.size));clear h5)
         | (go_at_call 10;refine (hT.out w5 H5.out).mono ?_;rintro e w6 ⟨rfl,h6⟩;have H6:=Any.hidJ (H5.out.trans (h6.mono H5.out.size));clear h6)
         | (go_at_call 11;refine (hR.out w6 H6.out).mono ?_;rintro e w7 ⟨rfl,h7⟩;have H7:=Any.hidJ (H6.out.trans (h7.mono H6.out.size));clear h7))
        trace_state
        go_ret
        exact ⟨rfl,H7.out⟩
      ·go_wp2_with (first
        | (go_at_call 5;refine (hAl.out wr HB.out).mono ?_;rintro e w3 ⟨rfl,h3⟩;have H3:=Any.hidJ (HB.out.trans (h3.mono HB.out.size));clear h3)
        | (go_at_call 8;refine (hP.out w3 H3.out).mono ?_;rintro e w4 ⟨rfl,h4⟩;have H4:=Any.hidJ (H3.out.trans (h4.mono H3.out.size));clear h4)
        | (go_at_call 9;refine (hQ.out w4 H4.out).mono ?_;rintro e w5 ⟨rfl,h5⟩;have H5:=Any.hidJ (H4.out.trans (h5.mono H4.out.size));clear h5)
        | (go_at_call 10;refine (hT.out w5 H5.out).mono ?_;rintro e w6 ⟨rfl,h6⟩;have H6:=Any.hidJ (H5.out.trans (h6.mono H5.out.size));clear h6)
        | (go_at_call 11;refine (hR.out w6 H6.out).mono ?_;rintro e w7 ⟨rfl,h7⟩;have H7:=Any.hidJ (H6.out.trans (h7.mono H6.out.size));clear h7))
       go_ret
       exact ⟨rfl,H7.out⟩
end Go.Proofs
namespace Go.Proofs.YtbhfbliodeagmaaGreatDoor
open Go Go.RowKit Go.ChangeShapes Go.WideShapes Go.ChangeAt Go.Own
theorem OW {H:Type} {enc:TypeId×Value→H} {P:Program} {f:Func} {s:ChangeSpec} {apart fresh handsOn again:Bool} {W W':World} {args:Array Value} {v:Value} {ds gs:List (DataW H)} {before pa pv:List MemPlace}
  (hW:DataW.Whole enc P f.params.toList s.vars apart W args.toList ds gs before) (hb:Below W.heap.size W W')
  (hres:∀ (b:Nat) (sp:Nat→Bool) (hd:Bool),DataW.TrodAll enc P W' b sp hd f.resultTypes.toList (v.resultList f.resultTypes.size) (s.fn H (ds++gs)).results [])
  (hargs:∀ sp:Nat→Bool,(∀ p∈before,sp p.block=true)→DataW.TrodAll enc P W' 0 sp true f.params.toList args.toList (s.fn H (ds++gs)).args pa)
  (hvars:∀ sp:Nat→Bool,(∀ p∈before,sp p.block=true)→DataW.TrodVars enc P W' sp s.vars (s.fn H (ds++gs)).vars pv)
  (hps:before=pa++pv)
  (hok:∀ (j:Nat) (t:TypeId) (r:Value),f.resultTypes[j]?=some t→(v.resultList f.resultTypes.size)[j]?=some r→Value.okWide P W' .any 0 t r) :
  s.post enc P f apart fresh handsOn again W args v W':=by
 have hlt:∀ p∈before,p.block<W.heap.size:=fun p hp=>by simpa using hW.lt p hp
 have hd:∀ p∈before,(fun b=>decide (b<W.heap.size)) p.block=true:=fun p hp=>by simpa using hlt p hp
 have ht:∀ p∈before,(fun _:Nat=>true) p.block=true:=fun _ _=>rfl
 refine ⟨ds,gs,before,[],pa,pv,hW,hres _ _ _,hargs _ hd,hvars _ hd,hb.frame _,fun _=>⟨hok,(s.fn H (ds++gs)).results++(s.fn H (ds++gs)).args,(s.fn H (ds++gs)).vars,before,⟨pa,pv,trodAll_append (hargs _ ht) (hres _ _ _),hvars _ ht,hps,fun b off hp=>?_,?_⟩,fun p hp _=>hp⟩⟩
 ·obtain ⟨_,_,_,_,_,hz,_⟩:=hW
  exact (hb.frozen (hlt _ hp)).trans (hz b off hp)
 ·obtain ⟨_,_,_,_,_,_,hn⟩:=hW
  exact hn
theorem own:ownKnob Tryz.prog.godebug=none:=by kernel_rfl
theorem laidOut:laidOutB Tryz.prog=true:=by kernel_rfl
set_option maxRecDepth 100000 in
theorem ahY {W:World} (h:W.ShapedOpen Tryz.prog):∃ m:Int,W.cell? ⟨0,0,none⟩=some (.int .i64 m):=
 cell_of_shapedOpen_int (P:=Tryz.prog) (g:=0) (t:=3) (zero:=#[.int .i64 0]) h (of_decide_eq_true (by kernel_rfl)) (by kernel_rfl) rfl (by kernel_rfl) (by kernel_rfl) Tryz.underlying3
set_option maxRecDepth 100000 in
theorem contract (H:Type) (enc:TypeId×Value→H) (W:World) (args:Array Value) (ds gs:List (DataW H)) (before:List MemPlace) (base:Nat)
  (hval:∀ (j:Nat) t v,Tryz.f3.params[j]?=some t→args[j]?=some v→Value.okWide Tryz.prog W .any base t v)
  (hW:DataW.Whole enc Tryz.prog Tryz.f3.params.toList Rows.observeTextsSpec.vars false W args.toList ds gs before) (hC:Rows.uptoSmall H (ds++gs)=true) (hL:laidMetH Tryz.prog Rows.observeTextsUptoRow.laid W) (hS:W.ShapedOpen Tryz.prog) :
  Calls Tryz.prog 3 args W fun e W'=>∃ v,e = .returned v∧Rows.observeTextsSpec.post enc Tryz.prog Tryz.f3 false true false false W args v W':=by
 have hW':=hW
 obtain ⟨p,q,hA0,hV,rfl,hfz,hnd⟩:=hW
 have hA:DataW.TrodAll enc Tryz.prog W 0 (fun _=>true) true Tryz.f3.params.toList args.toList ds p:=hA0
 rw [Tryz.params3] at hA hval
 obtain ⟨v0,vs0,d0,ds0,p0,q0,hargs,rfl,rfl,h0,r0⟩:=trodAll_cons hA
 obtain ⟨v1,vs1,d1,ds1,p1,q1,rfl,rfl,rfl,h1,r1⟩:=trodAll_cons r0
 obtain ⟨rfl,rfl,rfl⟩:=trodAll_nil r1
 obtain rfl:args=#[v0,v1]:=by cases args;simp_all
 obtain ⟨rfl,rfl⟩:=trodVars_none hV
 clear hA0 hA
 obtain ⟨a0,l0,c0,rfl⟩:=okWide_slice Tryz.underlying22 (hval 0 22 v0 rfl rfl)
 obtain ⟨a1,l1,c1,rfl⟩:=okWide_slice Tryz.underlying22 (hval 1 22 v1 rfl rfl)
 obtain ⟨x,rx,okx,cx⟩:=Qx h0 rfl
 obtain ⟨y,ry,oky,cy⟩:=Qx h1 rfl
 have hbk:Rows.uptoBulk d0≤1048576∧Rows.uptoBulk d1≤1048576:=by
  have h:Rows.uptoBulkAll ([d0,d1]++[])≤1048576:=of_decide_eq_true hC
  simp only [List.append_nil,Rows.uptoBulkAll] at h
  omega
 obtain ⟨xl,xt,xs⟩:=Bj cx hbk.1
 obtain ⟨yl,yt,ys⟩:=Bj cy hbk.2
 have hm:=ahY hS
 have hg:=VN hL
 refine (Tryz.anN x y W _ _ rx ry (fun s hs=>⟨okx s hs,xs s hs⟩) (fun s hs=>⟨oky s hs,ys s hs⟩) xl yl xt fun W1 hb=>?_).mono fun e W' ⟨he,hg⟩=>?_
 ·refine Qc ?_ fun k hk=>?_
  ·obtain ⟨m,hm⟩:=hm
   have hz:0<W.heap.size:=by
    unfold World.cell? at hm
    cases hh:W.heap[0]? with
    | none=>rw [hh] at hm;cases hm
    | some _=>exact (Array.getElem?_eq_some_iff.1 hh).1
   exact ⟨m,fJ hb hz hm⟩
  ·obtain ⟨cur,t,fz,h1,h2⟩:=hg k hk
   exact ⟨cur,t,fz,(hb.block k (Array.getElem?_eq_some_iff.1 h1).1).trans h1,h2⟩
 subst he
 have hlt:∀ z∈p0++(p1++[])++[],z.block<W.heap.size:=fun z hz=>by simpa using hW'.lt z hz
 refine ⟨_,rfl,OW (pa:=p0++(p1++[])) (pv:=[]) hW' hg (fun _ _ _=>trodAll_cons_mk (shut_bool Tryz.underlying4 _) trodAll_mk0) (fun sp hs=>?_) (fun _ _=>rfl) rfl (ok_one (by kernel_rfl) rfl (okWide_bool_mk Tryz.underlying4 _))⟩
 have e0:=WideElems.Trod_stays (sp':=sp) (W':=W') laidOut (by kernel_rfl) (of_decide_eq_true (by kernel_rfl)) h0 (fun z hz=>hg.same (hlt z (by simp [hz]))) (fun z hz=>hs z (by simp [hz]))
 have e1:=WideElems.Trod_stays (sp':=sp) (W':=W') laidOut (by kernel_rfl) (of_decide_eq_true (by kernel_rfl)) h1 (fun z hz=>hg.same (hlt z (by simp [hz]))) (fun z hz=>hs z (by simp [hz]))
 exact trodAll_cons_mk e0 (trodAll_cons_mk e1 trodAll_mk0)
end Go.Proofs.YtbhfbliodeagmaaGreatDoor
