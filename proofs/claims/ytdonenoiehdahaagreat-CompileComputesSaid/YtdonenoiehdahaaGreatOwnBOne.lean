/- Walks: orders of integers and of their lists. -/
import Derived.Test.YtdonenoiehdahaaGreatOwnTAnd
set_option linter.all false
namespace Go.Proofs.YtdonenoiehdahaaGreat
open Go Go.Abs Go.Own
attribute [local irreducible] WP
theorem Tryz.Q9 (a b:Int):Pure Tryz.prog 107 [.int .i64 a,.int .i64 b] [.int .i64 (aT a b)]:=by
 refine Pure.of_wp hT (nt:=_) (c:=_) Tryz.func107 rfl rfl rfl rfl (by kernel_rfl) ?_;intro w0 ok0 β0;repeat (refine gw rfl ?_;conv=>whnf)
 refine .inl ⟨_,Tryz.zA a,.inl rfl,?_⟩;conv=>whnf
 repeat (refine gw rfl ?_;conv=>whnf)
 refine .inl ⟨_,Tryz.zA b,.inl rfl,?_⟩;conv=>whnf
 repeat (refine gw rfl ?_;conv=>whnf)
 split
 ·rename_i h;repeat (refine gw rfl ?_;conv=>whnf)
  have h:a<b:=by simpa using h
  simp [aT,h]
 ·rename_i h;have h:¬ a<b:=by simpa using h
  repeat (refine gw rfl ?_;conv=>whnf)
  split
  ·rename_i h2;(repeat (refine gw rfl ?_;conv=>whnf));have h2:b<a:=(by simpa using h2);simp [aT,h,h2]
  ·rename_i h2;(repeat (refine gw rfl ?_;conv=>whnf));have h2:¬ b<a:=(by simpa using h2);simp [aT,h,h2]
theorem yN {l:List Int} {i:Nat} (h:i<l.length):l.drop i=l[i]::l.drop (i+1):=by simp
theorem Tryz.ru (a b:List Int) (ha:a.length≤1000000) (hb:b.length≤1000000):Pure Tryz.prog 108 [.list (a.map enI),.list (b.map enI)] [.int .i64 (cmpL a b)]:=by
 refine Pure.of_wp hT (nt:=_) (c:=_) Tryz.func108 rfl rfl rfl rfl (by kernel_rfl) ?_;intro w0 ok0 β0;repeat (refine gw rfl ?_;conv=>whnf)
 refine WP.loop (α:=Nat) (fun i=>⟨[(0,.d (.list (a.map enI))),(1,.d (.list (b.map enI))),(9,.d (.list (a.map enI))),(10,.d (.int .i64 a.length)),(11,.d (.int .i64 i))],[],[]⟩)
  (fun i=>i≤a.length∧i≤b.length∧cmpL a b=cmpL (a.drop i) (b.drop i)) (fun i=>a.length-i) 0 [] [] ?_ ?_ ?_
 ·((conv=>whnf);repeat (first | exact ⟨⟩ | (refine ⟨by first | rfl | (simp;done) | (simp;omega),?_⟩;conv=>whnf)))
 ·simp
 ·rintro i ⟨hia,hib,hi⟩;repeat (refine gw rfl ?_;conv=>whnf)
  split
  ·rename_i hlt;have hlt:i<a.length:=(by simpa using hlt);(repeat (refine gw rfl ?_;conv=>whnf));refine ⟨by omega,_,ay hlt,rfl,?_⟩;(conv=>whnf);(repeat (refine gw rfl ?_;conv=>whnf));split
   ·rename_i h2;(repeat (refine gw rfl ?_;conv=>whnf));have h2:i=b.length:=(by simp at h2;omega);subst h2;rw [hi,List.drop_length,yN hlt];rfl
   ·rename_i h2;have h2:i<b.length:=(by simp at h2;omega);(repeat (refine gw rfl ?_;conv=>whnf));refine ⟨by omega,_,ay h2,rfl,?_⟩;(conv=>whnf);(repeat (refine gw rfl ?_;conv=>whnf));refine .inl ⟨_,Tryz.Q9 _ _,.inl rfl,?_⟩;(conv=>whnf);(repeat (refine gw rfl ?_;conv=>whnf));have hc:cmpL a b=if a[i]<b[i] then -1 else if b[i]<a[i] then 1 else cmpL (a.drop (i+1)) (b.drop (i+1)):=by
     rw [hi,yN hlt,yN h2];rfl
    split
    ·rename_i h3;(repeat (refine gw rfl ?_;conv=>whnf));have h3:aT a[i] b[i]≠0:=(by simpa using h3);rw [hc];unfold aT at h3 ⊢;split
     ·rfl
     ·split
      ·rfl
      ·rename_i k1 k2;rw [if_neg k1,if_neg k2] at h3;exact absurd rfl h3
    ·rename_i h3;have h3:a[i]=b[i]:=fJ.1 (by simpa using h3);(repeat (refine gw rfl ?_;conv=>whnf));refine ⟨by omega,?_⟩;(conv=>whnf);refine ⟨i+1,[],[],?_,⟨by omega,by omega,?_⟩,by omega⟩
     ·((conv=>whnf);repeat (first | exact ⟨⟩ | (refine ⟨by first | rfl | (simp;done) | (simp;omega),?_⟩;conv=>whnf)))
     ·rw [hc,if_neg (by omega),if_neg (by omega)]
  ·rename_i hge;have e:i=a.length:=(by simp at hge;omega);subst e;(repeat (refine gw rfl ?_;conv=>whnf));split
   ·rename_i h4;have h4:a.length<b.length:=(by simpa using h4);(repeat (refine gw rfl ?_;conv=>whnf));rw [hi,List.drop_length,yN h4];rfl
   ·rename_i h4;have h4:b.length=a.length:=(by simp at h4;omega);(repeat (refine gw rfl ?_;conv=>whnf));rw [hi,List.drop_length,← h4,List.drop_length];rfl
end Go.Proofs.YtdonenoiehdahaaGreat
