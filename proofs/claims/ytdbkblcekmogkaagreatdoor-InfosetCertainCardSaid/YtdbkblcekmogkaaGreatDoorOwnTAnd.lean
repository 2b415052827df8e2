/- The seat's table of types and the calculus, for the walks. -/
import Derived.Test.YtdbkblcekmogkaaGreatDoorSimTabOne
import Derived.Test.YtdbkblcekmogkaaGreatDoorAbsRAnd
import Derived.KernelRfl
import Derived.Test.YtdbkblcekmogkaaGreatDoorAbsPAnd
import Derived.Shelf.Spec.SlicesInsertGrow
import Derived.Ground.Names2Prog
set_option linter.unusedVariables false
set_option linter.unusedSimpArgs false
set_option linter.all false
namespace Go.Own
def hit {α:Type} (c:α→Int) (o:Option α):Bool:=match o with | some a=>decide (c a=0) | none=>false
def nN (a b:Int):Int:=if a<b then -1 else if b<a then 1 else 0
def cmpL:List Int→List Int→Int
 | [],[]=>0
 | [],_::_=>-1
 | _::_,[]=>1
 | a::l,b::m=>if a<b then -1 else if b<a then 1 else cmpL l m
theorem pW {a b:Int}:nN a b=0↔a=b:=by
 unfold nN
 split
 ·constructor<;>intro<;>omega
 ·split
  ·constructor<;>intro<;>omega
  ·constructor<;>intro<;>omega
theorem AB {a b:Int}:nN a b<0↔a<b:=by
 unfold nN
 split
 ·constructor<;>intro<;>omega
 ·split
  ·constructor<;>intro<;>omega
  ·constructor<;>intro<;>omega
theorem jH:∀ {a b:List Int},cmpL a b=0↔a=b
 | [],[]=>by simp [cmpL]
 | [],_::_=>by simp [cmpL]
 | _::_,[]=>by simp [cmpL]
 | a::l,b::m=>by
   unfold cmpL
   split
   ·simp;omega
   ·split
    ·simp;omega
    ·rw [jH];simp;omega
theorem rJ:∀ {a b c:List Int},cmpL a b<0→cmpL b c<0→cmpL a c<0
 | [],[],_,h,_=>by simp [cmpL] at h
 | _::_,[],_,h,_=>by simp [cmpL] at h
 | _,_::_,[],_,h=>by simp [cmpL] at h
 | [],_::_,_::_,_,_=>by simp [cmpL]
 | a::l,b::m,c::cs,h,k=>by
   unfold cmpL at h k ⊢
   split
   ·decide
   ·split at h
    ·split at k
     ·omega
     ·split at k
      ·cases k
      ·omega
    ·split at h
     ·cases h
     ·split at k
      ·omega
      ·split at k
       ·cases k
       ·rw [if_neg (by omega)]
        exact rJ h k
def Q5 (s:List (List Int)):Prop:=s.Pairwise fun a b=>cmpL a b<0
def Asc (l:List Int):Prop:=l.Pairwise (·<·)
theorem fQ {α:Type} {R:α→α→Prop} (ht:∀ a b c,R a b→R b c→R a c):∀ {l:List α},(∀ i,(h:i+1<l.length)→R l[i] l[i+1])→l.Pairwise R
 | [],_ => .nil
 | [a],_=>List.pairwise_singleton _ _
 | a::b::l,h=>by
   have ih:(b::l).Pairwise R:=fQ ht fun i hi=>by have:=h (i+1) (by simpa using hi);simpa using this
   refine List.pairwise_cons.2 ⟨fun c hc=>?_,ih⟩
   have hab:R a b:=h 0 (by simp)
   rcases List.mem_cons.1 hc with rfl | hc
   ·exact hab
   ·exact ht _ _ _ hab ((List.pairwise_cons.1 ih).1 c hc)
def ins (s:List Int) (x:Int):List Int:=s.filter (fun y=>decide (y<x))++x::s.filter (fun y=>!decide (y<x))
def jD (s:List Int) (x:Int):List Int:=if x∈s then s else ins s x
theorem vY {s:List Int} (hs:Asc s) (x:Int):s.takeWhile (fun y=>decide (y<x))=s.filter (fun y=>decide (y<x))∧s.dropWhile (fun y=>decide (y<x))=s.filter (fun y=>!decide (y<x)):=by
 induction s with
 | nil=>simp
 | cons a s ih=>
   obtain ⟨h1,h2⟩:=List.pairwise_cons.1 hs
   obtain ⟨i1,i2⟩:=ih h2
   by_cases ha:a<x
   ·simp [List.takeWhile_cons,List.dropWhile_cons,ha,i1,i2]
   ·have hall:∀ y∈s,¬ y<x:=fun y hy=>by have:=h1 y hy;omega
    simp [List.takeWhile_cons,List.dropWhile_cons,ha]
    refine ⟨fun y hy=>by have:=hall y hy;omega,?_⟩
    exact (List.filter_eq_self.2 fun y hy=>by simpa using hall y hy).symm
theorem XD {s:List Int} {x y:Int}:y∈ins s x↔y=x∨y∈s:=by
 unfold ins
 simp only [List.mem_append,List.mem_filter,List.mem_cons,decide_eq_true_eq,Bool.not_eq_true',decide_eq_false_iff_not]
 constructor
 ·rintro (⟨h,_⟩ | h | ⟨h,_⟩)
  ·exact .inr h
  ·exact .inl h
  ·exact .inr h
 ·rintro (h | h)
  ·exact .inr (.inl h)
  ·by_cases hx:y<x
   ·exact .inl ⟨h,hx⟩
   ·exact .inr (.inr ⟨h,hx⟩)
theorem ZE {s:List Int} (hs:Asc s) {x:Int} (hx:x∉s):Asc (ins s x):=by
 unfold ins
 refine List.pairwise_append.2 ⟨List.Pairwise.filter _ hs,List.pairwise_cons.2 ⟨fun y hy=>?_,List.Pairwise.filter _ hs⟩,fun a ha b hb=>?_⟩
 ·have h:=List.mem_filter.1 hy
  have h2:¬ y<x:=by simpa using h.2
  have h3:y≠x:=fun e=>hx (e ▸ h.1)
  omega
 ·have ha:=(List.mem_filter.1 ha).2
  have ha:a<x:=by simpa using ha
  rcases List.mem_cons.1 hb with rfl | hb
  ·exact ha
  ·have hb:=(List.mem_filter.1 hb).2
   have hb:¬ b<x:=by simpa using hb
   omega
theorem Wx {s:List Int} (hs:Asc s) (x:Int):Asc (jD s x):=by
 unfold jD
 split
 ·exact hs
 ·exact ZE hs (by assumption)
theorem Jc (p:Int→Bool) {s:List Int} (hs:Asc s) (x:Int):(jD s x).filter p=if p x then jD (s.filter p) x else s.filter p:=by
 have sw:∀ q:Int→Bool,(s.filter q).filter p=(s.filter p).filter q:=fun q=>by rw [List.filter_filter,List.filter_filter];congr 1;funext y;exact Bool.and_comm _ _
 cases hp:p x with
 | true=>
   rw [if_pos rfl]
   unfold jD
   by_cases hx:x∈s
   ·rw [if_pos hx,if_pos (List.mem_filter.2 ⟨hx,hp⟩)]
   ·rw [if_neg hx,if_neg (fun h=>hx (List.mem_filter.1 h).1)]
    unfold ins
    rw [List.filter_append,List.filter_cons_of_pos hp,sw,sw]
 | false=>
   rw [if_neg (by simp)]
   unfold jD
   split
   ·rfl
   ·unfold ins
    rw [List.filter_append,List.filter_cons_of_neg (by simp [hp]),sw,sw]
    have h:=vY (List.Pairwise.filter p hs) x
    rw [← h.1,← h.2,List.takeWhile_append_dropWhile]
def bJ (l:List Int):List Int:=l.foldl jD []
theorem wJ (l:List Int) (x:Int):bJ (l++[x])=jD (bJ l) x:=by simp [bJ,List.foldl_append]
theorem AY (l:List Int):Asc (bJ l):=by
 suffices h:∀ s,Asc s→Asc (l.foldl jD s) from h [] .nil
 induction l with
 | nil=>exact fun s hs=>hs
 | cons a l ih=>exact fun s hs=>ih _ (Wx hs a)
theorem Ip (s:List Int) (x:Int):(jD s x).length≤s.length+1:=by
 unfold jD
 split
 ·omega
 ·unfold ins
  have:(s.filter (fun y=>decide (y<x))).length+(s.filter (fun y=>!decide (y<x))).length=s.length:=by
   induction s with
   | nil=>rfl
   | cons a s ih=>by_cases h:a<x<;>simp_all [List.filter_cons]<;>omega
  simp;omega
theorem jc (l:List Int):(bJ l).length≤l.length:=by
 suffices h:∀ s,(l.foldl jD s).length≤s.length+l.length by simpa [bJ] using h []
 induction l with
 | nil=>simp
 | cons a l ih=>
   intro s
   have:=ih (jD s a)
   have:=Ip s a
   simp only [List.foldl_cons,List.length_cons];omega
def bZ (set:List (List Int)) (b:Int):Bool:=set.all fun r=>r.contains b
theorem QS {set:List (List Int)} (h:∀ r∈set,Asc r) (b:Int):set.flatten.count b≤set.length∧(set.flatten.count b=set.length↔bZ set b=true):=by
 induction set with
 | nil=>simp [bZ]
 | cons r set ih=>
   obtain ⟨i1,i2⟩:=ih fun r hr=>h r (List.mem_cons_of_mem _ hr)
   have hr:r.count b≤1∧(r.count b=1↔b∈r):=by
    have hn:r.Nodup:=(h r List.mem_cons_self).imp fun hab=>by omega
    have:=List.nodup_iff_count.1 hn b
    refine ⟨this,fun e=>List.count_pos_iff.1 (by omega),fun hm=>?_⟩
    have:=List.count_pos_iff.2 hm
    omega
   rw [List.flatten_cons,List.count_append,List.length_cons]
   refine ⟨by omega,?_⟩
   have:bZ (r::set) b=(r.contains b&&bZ set b):=rfl
   rw [this,Bool.and_eq_true,← i2,List.contains_iff_mem,← hr.2]
   omega
theorem yB {l:List Int} (hs:Asc l) (x:Int):l.take (l.filter (fun y=>decide (y<x))).length=l.filter (fun y=>decide (y<x))∧l.drop (l.filter (fun y=>decide (y<x))).length=l.filter (fun y=>!decide (y<x)):=by
 obtain ⟨h1,h2⟩:=vY hs x
 have e:l=l.filter (fun y=>decide (y<x))++l.filter (fun y=>!decide (y<x)):=by rw [← h1,← h2,List.takeWhile_append_dropWhile]
 constructor
 ·conv=>lhs;arg 2;rw [e]
  rw [List.take_append_of_le_length (Nat.le_refl _),List.take_length]
 ·conv=>lhs;arg 2;rw [e]
  rw [List.drop_append_of_le_length (Nat.le_refl _),List.drop_length,List.nil_append]
theorem NY {l:List Int} (hs:Asc l) (x:Int):ins l x=l.take (l.filter (fun y=>decide (y<x))).length++x::l.drop (l.filter (fun y=>decide (y<x))).length:=by
 rw [(yB hs x).1,(yB hs x).2];rfl
def nG:List (Int×Int)→Int→Option Int
 | [],_=>none
 | e::es,b=>if b=e.1 then some e.2 else nG es b
def Hw:List (Int×Int)→Int→Int→List (Int×Int)
 | [],b,n=>[(b,n)]
 | e::es,b,n=>if b=e.1 then (b,n)::es else e::Hw es b n
theorem zD:∀ (es:List (Int×Int)) (b n a:Int),nG (Hw es b n) a=if a=b then some n else nG es a
 | [],b,n,a=>by simp [Hw,nG]
 | e::es,b,n,a=>by
   unfold Hw
   split
   ·rename_i h
    subst h
    simp only [nG]
    split<;>simp_all
   ·rename_i h
    simp only [nG,zD es b n a]
    by_cases h1:a=e.1
    ·subst h1
     rw [if_pos rfl,if_neg (Ne.symm h),if_pos rfl]
    ·rw [if_neg h1,if_neg h1]
def nJ (l:List Int):List (Int×Int):=l.foldl (fun c b=>Hw c b ((nG c b).getD 0+1)) []
theorem AA (l:List Int) (b:Int):nJ (l++[b])=Hw (nJ l) b ((nG (nJ l) b).getD 0+1):=by simp [nJ,List.foldl_append]
theorem zC (l:List Int) (b:Int):(nG (nJ l) b).getD 0=l.count b:=by
 have key:∀ n (l:List Int),l.length=n→(nG (nJ l) b).getD 0=l.count b:=by
  intro n
  induction n with
  | zero=>intro l hl;obtain rfl:=List.length_eq_zero_iff.1 hl;rfl
  | succ n ih=>
    intro l hl
    obtain ⟨r,a,rfl⟩:∃ r a,l=r++[a]:=⟨l.dropLast,l.getLast (by intro h;simp [h] at hl),(List.dropLast_concat_getLast _).symm⟩
    have hr:r.length=n:=by simpa using hl
    rw [AA,zD,List.count_append]
    by_cases h:b=a
    ·subst h
     rw [if_pos rfl,ih r hr]
     simp
    ·rw [if_neg h,ih r hr]
     have:[a].count b=0:=by simp [List.count_cons,Ne.symm h]
     rw [this];simp
 exact key _ l rfl
end Go.Own
namespace Go.Proofs.YtdbkblcekmogkaaGreatDoor
open Go Go.Abs Go.Own
attribute [local irreducible] WP
def enI (n:Int):D := .int .i64 n
def enL (l:List Int):D := .list (l.map enI)
theorem bn {α:Type} {f:α→D} {a:List α} {i:Nat} (h:i<a.length):(a.map f)[((i:Int)).toNat]?=some (f a[i]):=by simp [h]
theorem Tryz.CX (a:Int):Pure Tryz.prog 57 [.int .i64 a] [.bool false]:=by
 refine Pure.of_wp hT (nt:=_) (c:=_) Tryz.func57 rfl rfl rfl rfl (by kernel_rfl) ?_
 intro w0 ok0 β0
 repeat first | refine W1 ?_ | refine W3 ?_ | ((first | refine W2 hT hM [] ?_ | refine W4 ?_ | refine W5 ?_ | refine W6 ?_ | refine W7 ?_ rfl);conv=>whnf)
 simp
theorem Tryz.ints (a b:List Int) (ha:a.length≤1000000) (hb:b.length≤1000000):Pure Tryz.prog 11 [.list (a.map enI),.list (b.map enI)] [.bool (a==b)]:=by
 refine Pure.of_wp hT (nt:=_) (c:=_) Tryz.func11 rfl rfl rfl rfl (by kernel_rfl) ?_
 intro w0 ok0 β0
 repeat first | refine W1 ?_ | refine W3 ?_ | ((first | refine W2 hT hM [] ?_ | refine W4 ?_ | refine W5 ?_ | refine W6 ?_ | refine W7 ?_ rfl);conv=>whnf)
 split
 ·rename_i h
  repeat first | refine W1 ?_ | refine W3 ?_ | ((first | refine W2 hT hM [] ?_ | refine W4 ?_ | refine W5 ?_ | refine W6 ?_ | refine W7 ?_ rfl);conv=>whnf)
  simp at h ⊢
  rintro rfl;exact h rfl
 ·rename_i h
  have hl:a.length=b.length:=by simp at h;omega
  repeat first | refine W1 ?_ | refine W3 ?_ | ((first | refine W2 hT hM [] ?_ | refine W4 ?_ | refine W5 ?_ | refine W6 ?_ | refine W7 ?_ rfl);conv=>whnf)
  refine WP.loop (α:=Nat) (fun i=>⟨[(0,.d (.list (a.map enI))),(1,.d (.list (b.map enI))),(12,.d (.int .i64 a.length)),(13,.d (.int .i64 i))],[],[]⟩) (fun i=>i≤a.length∧a.take i=b.take i) (fun i=>a.length-i) 0 [] [] ?_ ?_ ?_
  ·((conv=>whnf);repeat (first | exact True.intro | (refine And.intro (by first | rfl | exact ⟨rfl,rfl,rfl⟩ | exact ⟨rfl,rfl,by simp⟩ | exact ⟨rfl,rfl⟩ | exact ⟨rfl,by simp⟩ | (simp;done) | (simp;omega)) ?_;conv=>whnf)))
  ·simp
  ·intro i hi
   repeat first | refine W1 ?_ | refine W3 ?_ | ((first | refine W2 hT hM [] ?_ | refine W4 ?_ | refine W5 ?_ | refine W6 ?_ | refine W7 ?_ rfl);conv=>whnf)
   split
   ·rename_i hlt
    have hlt:i<a.length:=by simpa using hlt
    repeat first | refine W1 ?_ | refine W3 ?_ | ((first | refine W2 hT hM [] ?_ | refine W4 ?_ | refine W5 ?_ | refine W6 ?_ | refine W7 ?_ rfl);conv=>whnf)
    refine ⟨by omega,_,bn hlt,rfl,?_⟩
    conv=>whnf
    refine ⟨by omega,_,bn (by omega),rfl,?_⟩
    conv=>whnf
    repeat first | refine W1 ?_ | refine W3 ?_ | ((first | refine W2 hT hM [] ?_ | refine W4 ?_ | refine W5 ?_ | refine W6 ?_ | refine W7 ?_ rfl);conv=>whnf)
    split
    ·rename_i hne
     repeat first | refine W1 ?_ | refine W3 ?_ | ((first | refine W2 hT hM [] ?_ | refine W4 ?_ | refine W5 ?_ | refine W6 ?_ | refine W7 ?_ rfl);conv=>whnf)
     have:a≠b:=by rintro rfl;simp at hne
     simpa using this
    ·rename_i he
     repeat first | refine W1 ?_ | refine W3 ?_ | ((first | refine W2 hT hM [] ?_ | refine W4 ?_ | refine W5 ?_ | refine W6 ?_ | refine W7 ?_ rfl);conv=>whnf)
     refine ⟨by omega,?_⟩
     conv=>whnf
     refine ⟨i+1,[],[],?_,⟨by omega,?_⟩,by omega⟩
     ·((conv=>whnf);repeat (first | exact True.intro | (refine And.intro (by first | rfl | exact ⟨rfl,rfl,rfl⟩ | exact ⟨rfl,rfl,by simp⟩ | exact ⟨rfl,rfl⟩ | exact ⟨rfl,by simp⟩ | (simp;done) | (simp;omega)) ?_;conv=>whnf)))
     ·have e:a[i]=b[i]:=by simpa using he
      rw [List.take_succ_eq_append_getElem hlt,List.take_succ_eq_append_getElem (by omega),hi.2,e]
   ·rename_i hge
    have:i=a.length:=by simp at hge;omega
    subst this
    repeat first | refine W1 ?_ | refine W3 ?_ | ((first | refine W2 hT hM [] ?_ | refine W4 ?_ | refine W5 ?_ | refine W6 ?_ | refine W7 ?_ rfl);conv=>whnf)
    have:=hi.2
    rw [List.take_length,hl,List.take_length] at this
    simp [this]
end Go.Proofs.YtdbkblcekmogkaaGreatDoor
namespace Go.Proofs.YtdbkblcekmogkaaGreatDoor
open Go Go.Abs Go.Own
attribute [local irreducible] WP
theorem Tryz.O4 (a b:Int):Pure Tryz.prog 23 [.int .i64 a,.int .i64 b] [.int .i64 (nN a b)]:=by
 refine Pure.of_wp hT (nt:=_) (c:=_) Tryz.func23 rfl rfl rfl rfl (by kernel_rfl) ?_
 intro w0 ok0 β0
 repeat first | refine W1 ?_ | refine W3 ?_ | ((first | refine W2 hT hM [] ?_ | refine W4 ?_ | refine W5 ?_ | refine W6 ?_ | refine W7 ?_ rfl);conv=>whnf)
 refine .inl ⟨_,Tryz.CX a,.inl rfl,?_⟩
 conv=>whnf
 repeat first | refine W1 ?_ | refine W3 ?_ | ((first | refine W2 hT hM [] ?_ | refine W4 ?_ | refine W5 ?_ | refine W6 ?_ | refine W7 ?_ rfl);conv=>whnf)
 refine .inl ⟨_,Tryz.CX b,.inl rfl,?_⟩
 conv=>whnf
 repeat first | refine W1 ?_ | refine W3 ?_ | ((first | refine W2 hT hM [] ?_ | refine W4 ?_ | refine W5 ?_ | refine W6 ?_ | refine W7 ?_ rfl);conv=>whnf)
 split
 ·rename_i h
  repeat first | refine W1 ?_ | refine W3 ?_ | ((first | refine W2 hT hM [] ?_ | refine W4 ?_ | refine W5 ?_ | refine W6 ?_ | refine W7 ?_ rfl);conv=>whnf)
  have h:a<b:=by simpa using h
  simp [nN,h]
 ·rename_i h
  have h:¬ a<b:=by simpa using h
  repeat first | refine W1 ?_ | refine W3 ?_ | ((first | refine W2 hT hM [] ?_ | refine W4 ?_ | refine W5 ?_ | refine W6 ?_ | refine W7 ?_ rfl);conv=>whnf)
  split
  ·rename_i h2
   repeat first | refine W1 ?_ | refine W3 ?_ | ((first | refine W2 hT hM [] ?_ | refine W4 ?_ | refine W5 ?_ | refine W6 ?_ | refine W7 ?_ rfl);conv=>whnf)
   have h2:b<a:=by simpa using h2
   simp [nN,h,h2]
  ·rename_i h2
   repeat first | refine W1 ?_ | refine W3 ?_ | ((first | refine W2 hT hM [] ?_ | refine W4 ?_ | refine W5 ?_ | refine W6 ?_ | refine W7 ?_ rfl);conv=>whnf)
   have h2:¬ b<a:=by simpa using h2
   simp [nN,h,h2]
theorem jh {l:List Int} {i:Nat} (h:i<l.length):l.drop i=l[i]::l.drop (i+1):=by simp
theorem Tryz.yJ (a b:List Int) (ha:a.length≤1000000) (hb:b.length≤1000000):Pure Tryz.prog 27 [.list (a.map enI),.list (b.map enI)] [.int .i64 (cmpL a b)]:=by
 refine Pure.of_wp hT (nt:=_) (c:=_) Tryz.func27 rfl rfl rfl rfl (by kernel_rfl) ?_
 intro w0 ok0 β0
 repeat first | refine W1 ?_ | refine W3 ?_ | ((first | refine W2 hT hM [] ?_ | refine W4 ?_ | refine W5 ?_ | refine W6 ?_ | refine W7 ?_ rfl);conv=>whnf)
 refine WP.loop (α:=Nat) (fun i=>⟨[(0,.d (.list (a.map enI))),(1,.d (.list (b.map enI))),(9,.d (.list (a.map enI))),(10,.d (.int .i64 a.length)),(11,.d (.int .i64 i))],[],[]⟩)
  (fun i=>i≤a.length∧i≤b.length∧cmpL a b=cmpL (a.drop i) (b.drop i)) (fun i=>a.length-i) 0 [] [] ?_ ?_ ?_
 ·((conv=>whnf);repeat (first | exact True.intro | (refine And.intro (by first | rfl | exact ⟨rfl,rfl,rfl⟩ | exact ⟨rfl,rfl,by simp⟩ | exact ⟨rfl,rfl⟩ | exact ⟨rfl,by simp⟩ | (simp;done) | (simp;omega)) ?_;conv=>whnf)))
 ·simp
 ·rintro i ⟨hia,hib,hi⟩
  repeat first | refine W1 ?_ | refine W3 ?_ | ((first | refine W2 hT hM [] ?_ | refine W4 ?_ | refine W5 ?_ | refine W6 ?_ | refine W7 ?_ rfl);conv=>whnf)
  split
  ·rename_i hlt
   have hlt:i<a.length:=by simpa using hlt
   repeat first | refine W1 ?_ | refine W3 ?_ | ((first | refine W2 hT hM [] ?_ | refine W4 ?_ | refine W5 ?_ | refine W6 ?_ | refine W7 ?_ rfl);conv=>whnf)
   refine ⟨by omega,_,bn hlt,rfl,?_⟩
   conv=>whnf
   repeat first | refine W1 ?_ | refine W3 ?_ | ((first | refine W2 hT hM [] ?_ | refine W4 ?_ | refine W5 ?_ | refine W6 ?_ | refine W7 ?_ rfl);conv=>whnf)
   split
   ·rename_i h2
    repeat first | refine W1 ?_ | refine W3 ?_ | ((first | refine W2 hT hM [] ?_ | refine W4 ?_ | refine W5 ?_ | refine W6 ?_ | refine W7 ?_ rfl);conv=>whnf)
    have h2:i=b.length:=by simp at h2;omega
    subst h2
    rw [hi,List.drop_length,jh hlt]
    rfl
   ·rename_i h2
    have h2:i<b.length:=by simp at h2;omega
    repeat first | refine W1 ?_ | refine W3 ?_ | ((first | refine W2 hT hM [] ?_ | refine W4 ?_ | refine W5 ?_ | refine W6 ?_ | refine W7 ?_ rfl);conv=>whnf)
    refine ⟨by omega,_,bn h2,rfl,?_⟩
    conv=>whnf
    repeat first | refine W1 ?_ | refine W3 ?_ | ((first | refine W2 hT hM [] ?_ | refine W4 ?_ | refine W5 ?_ | refine W6 ?_ | refine W7 ?_ rfl);conv=>whnf)
    refine .inl ⟨_,Tryz.O4 _ _,.inl rfl,?_⟩
    conv=>whnf
    repeat first | refine W1 ?_ | refine W3 ?_ | ((first | refine W2 hT hM [] ?_ | refine W4 ?_ | refine W5 ?_ | refine W6 ?_ | refine W7 ?_ rfl);conv=>whnf)
    have hc:cmpL a b=if a[i]<b[i] then -1 else if b[i]<a[i] then 1 else cmpL (a.drop (i+1)) (b.drop (i+1)):=by
     rw [hi,jh hlt,jh h2];rfl
    split
    ·rename_i h3
     repeat first | refine W1 ?_ | refine W3 ?_ | ((first | refine W2 hT hM [] ?_ | refine W4 ?_ | refine W5 ?_ | refine W6 ?_ | refine W7 ?_ rfl);conv=>whnf)
     have h3:nN a[i] b[i]≠0:=by simpa using h3
     rw [hc]
     unfold nN at h3 ⊢
     split
     ·rfl
     ·split
      ·rfl
      ·rename_i k1 k2
       rw [if_neg k1,if_neg k2] at h3
       exact absurd rfl h3
    ·rename_i h3
     have h3:a[i]=b[i]:=pW.1 (by simpa using h3)
     repeat first | refine W1 ?_ | refine W3 ?_ | ((first | refine W2 hT hM [] ?_ | refine W4 ?_ | refine W5 ?_ | refine W6 ?_ | refine W7 ?_ rfl);conv=>whnf)
     refine ⟨by omega,?_⟩
     conv=>whnf
     refine ⟨i+1,[],[],?_,⟨by omega,by omega,?_⟩,by omega⟩
     ·((conv=>whnf);repeat (first | exact True.intro | (refine And.intro (by first | rfl | exact ⟨rfl,rfl,rfl⟩ | exact ⟨rfl,rfl,by simp⟩ | exact ⟨rfl,rfl⟩ | exact ⟨rfl,by simp⟩ | (simp;done) | (simp;omega)) ?_;conv=>whnf)))
     ·rw [hc,if_neg (by omega),if_neg (by omega)]
  ·rename_i hge
   have e:i=a.length:=by simp at hge;omega
   subst e
   repeat first | refine W1 ?_ | refine W3 ?_ | ((first | refine W2 hT hM [] ?_ | refine W4 ?_ | refine W5 ?_ | refine W6 ?_ | refine W7 ?_ rfl);conv=>whnf)
   split
   ·rename_i h4
    have h4:a.length<b.length:=by simpa using h4
    repeat first | refine W1 ?_ | refine W3 ?_ | ((first | refine W2 hT hM [] ?_ | refine W4 ?_ | refine W5 ?_ | refine W6 ?_ | refine W7 ?_ rfl);conv=>whnf)
    rw [hi,List.drop_length,jh h4]
    rfl
   ·rename_i h4
    have h4:b.length=a.length:=by simp at h4;omega
    repeat first | refine W1 ?_ | refine W3 ?_ | ((first | refine W2 hT hM [] ?_ | refine W4 ?_ | refine W5 ?_ | refine W6 ?_ | refine W7 ?_ rfl);conv=>whnf)
    rw [hi,List.drop_length,← h4,List.drop_length]
    rfl
theorem Tryz.DR (a b:List Int) (ha:a.length≤1000000) (hb:b.length≤1000000):Pure Tryz.prog 12 [.list (a.map enI),.list (b.map enI)] [.int .i64 (cmpL a b)]:=by
 refine Pure.of_wp hT (nt:=_) (c:=_) Tryz.func12 rfl rfl rfl rfl (by kernel_rfl) ?_
 intro w0 ok0 β0
 repeat first | refine W1 ?_ | refine W3 ?_ | ((first | refine W2 hT hM [] ?_ | refine W4 ?_ | refine W5 ?_ | refine W6 ?_ | refine W7 ?_ rfl);conv=>whnf)
 refine WP.loop (α:=Nat) (fun i=>⟨[(0,.d (.list (a.map enI))),(1,.d (.list (b.map enI))),(5,.d (.int .i64 i))],[],[]⟩)
  (fun i=>i≤a.length∧i≤b.length∧cmpL a b=cmpL (a.drop i) (b.drop i)) (fun i=>a.length-i) 0 [] [] ?_ ?_ ?_
 ·((conv=>whnf);repeat (first | exact True.intro | (refine And.intro (by first | rfl | exact ⟨rfl,rfl,rfl⟩ | exact ⟨rfl,rfl,by simp⟩ | exact ⟨rfl,rfl⟩ | exact ⟨rfl,by simp⟩ | (simp;done) | (simp;omega)) ?_;conv=>whnf)))
 ·simp
 ·rintro i ⟨hia,hib,hi⟩
  repeat first | refine W1 ?_ | refine W3 ?_ | ((first | refine W2 hT hM [] ?_ | refine W4 ?_ | refine W5 ?_ | refine W6 ?_ | refine W7 ?_ rfl);conv=>whnf)
  (split<;>rename_i hb<;>(try rw [hb])<;>(conv=>whnf))
  ·have hlt:i<a.length:=by simpa using hb
   clear hb
   repeat first | refine W1 ?_ | refine W3 ?_ | ((first | refine W2 hT hM [] ?_ | refine W4 ?_ | refine W5 ?_ | refine W6 ?_ | refine W7 ?_ rfl);conv=>whnf)
   (split<;>rename_i hb<;>(try rw [hb])<;>(conv=>whnf))
   ·have h2:i<b.length:=by simpa using hb
    clear hb
    have hc:cmpL a b=if a[i]<b[i] then -1 else if b[i]<a[i] then 1 else cmpL (a.drop (i+1)) (b.drop (i+1)):=by
     rw [hi,jh hlt,jh h2];rfl
    repeat first | refine W1 ?_ | refine W3 ?_ | ((first | refine W2 hT hM [] ?_ | refine W4 ?_ | refine W5 ?_ | refine W6 ?_ | refine W7 ?_ rfl);conv=>whnf)
    refine ⟨by omega,_,bn hlt,rfl,?_⟩
    conv=>whnf
    refine ⟨by omega,_,bn h2,rfl,?_⟩
    conv=>whnf
    repeat first | refine W1 ?_ | refine W3 ?_ | ((first | refine W2 hT hM [] ?_ | refine W4 ?_ | refine W5 ?_ | refine W6 ?_ | refine W7 ?_ rfl);conv=>whnf)
    split
    ·rename_i h3
     have h3:a[i]<b[i]:=by simpa using h3
     repeat first | refine W1 ?_ | refine W3 ?_ | ((first | refine W2 hT hM [] ?_ | refine W4 ?_ | refine W5 ?_ | refine W6 ?_ | refine W7 ?_ rfl);conv=>whnf)
     rw [hc,if_pos h3]
    ·rename_i h3
     have h3:¬ a[i]<b[i]:=by simpa using h3
     repeat first | refine W1 ?_ | refine W3 ?_ | ((first | refine W2 hT hM [] ?_ | refine W4 ?_ | refine W5 ?_ | refine W6 ?_ | refine W7 ?_ rfl);conv=>whnf)
     refine ⟨by omega,_,bn hlt,rfl,?_⟩
     conv=>whnf
     refine ⟨by omega,_,bn h2,rfl,?_⟩
     conv=>whnf
     repeat first | refine W1 ?_ | refine W3 ?_ | ((first | refine W2 hT hM [] ?_ | refine W4 ?_ | refine W5 ?_ | refine W6 ?_ | refine W7 ?_ rfl);conv=>whnf)
     split
     ·rename_i h4
      have h4:b[i]<a[i]:=by simpa using h4
      repeat first | refine W1 ?_ | refine W3 ?_ | ((first | refine W2 hT hM [] ?_ | refine W4 ?_ | refine W5 ?_ | refine W6 ?_ | refine W7 ?_ rfl);conv=>whnf)
      rw [hc,if_neg h3,if_pos h4]
     ·rename_i h4
      have h4:¬ b[i]<a[i]:=by simpa using h4
      repeat first | refine W1 ?_ | refine W3 ?_ | ((first | refine W2 hT hM [] ?_ | refine W4 ?_ | refine W5 ?_ | refine W6 ?_ | refine W7 ?_ rfl);conv=>whnf)
      refine ⟨by omega,?_⟩
      conv=>whnf
      refine ⟨i+1,[],[],?_,⟨by omega,by omega,?_⟩,by omega⟩
      ·((conv=>whnf);repeat (first | exact True.intro | (refine And.intro (by first | rfl | exact ⟨rfl,rfl,rfl⟩ | exact ⟨rfl,rfl,by simp⟩ | exact ⟨rfl,rfl⟩ | exact ⟨rfl,by simp⟩ | (simp;done) | (simp;omega)) ?_;conv=>whnf)))
      ·rw [hc,if_neg h3,if_neg h4]
   ·have h2:i=b.length:=by simp at hb;omega
    subst h2
    repeat first | refine W1 ?_ | refine W3 ?_ | ((first | refine W2 hT hM [] ?_ | refine W4 ?_ | refine W5 ?_ | refine W6 ?_ | refine W7 ?_ rfl);conv=>whnf)
    split
    ·rename_i h;have h:a.length<b.length:=by simpa using h
     omega
    ·repeat first | refine W1 ?_ | refine W3 ?_ | ((first | refine W2 hT hM [] ?_ | refine W4 ?_ | refine W5 ?_ | refine W6 ?_ | refine W7 ?_ rfl);conv=>whnf)
     split
     ·repeat first | refine W1 ?_ | refine W3 ?_ | ((first | refine W2 hT hM [] ?_ | refine W4 ?_ | refine W5 ?_ | refine W6 ?_ | refine W7 ?_ rfl);conv=>whnf)
      rw [hi,List.drop_length,jh hlt]
      rfl
     ·rename_i h;exact absurd (show decide ((a.map enI).length>(b.map enI).length)=true by simpa using hlt) (by simpa using h)
  ·have hge:i=a.length:=by simp at hb;omega
   subst hge
   repeat first | refine W1 ?_ | refine W3 ?_ | ((first | refine W2 hT hM [] ?_ | refine W4 ?_ | refine W5 ?_ | refine W6 ?_ | refine W7 ?_ rfl);conv=>whnf)
   split
   ·rename_i h4
    have h4:a.length<b.length:=by simpa using h4
    repeat first | refine W1 ?_ | refine W3 ?_ | ((first | refine W2 hT hM [] ?_ | refine W4 ?_ | refine W5 ?_ | refine W6 ?_ | refine W7 ?_ rfl);conv=>whnf)
    rw [hi,List.drop_length,jh h4]
    rfl
   ·rename_i h4
    have h4:b.length=a.length:=by simp at h4;omega
    repeat first | refine W1 ?_ | refine W3 ?_ | ((first | refine W2 hT hM [] ?_ | refine W4 ?_ | refine W5 ?_ | refine W6 ?_ | refine W7 ?_ rfl);conv=>whnf)
    split
    ·rename_i h5;simp at h5;omega
    ·repeat first | refine W1 ?_ | refine W3 ?_ | ((first | refine W2 hT hM [] ?_ | refine W4 ?_ | refine W5 ?_ | refine W6 ?_ | refine W7 ?_ rfl);conv=>whnf)
     rw [hi,List.drop_length,← h4,List.drop_length]
     rfl
end Go.Proofs.YtdbkblcekmogkaaGreatDoor
namespace Go.Proofs.YtdbkblcekmogkaaGreatDoor
open Go Go.Abs Go.Own
attribute [local irreducible] WP
def La (set:List (List Int)):Bool:=decide (set.length≤12)&&set.all fun r=>decide (r.length≤30)
theorem WE {α:Type} {p:α→Bool} {l:List α} {i:Nat} (h:i<l.length) (ha:(l.take i).all p=true) (hp:p l[i]=true):(l.take (i+1)).all p=true:=by
 rw [List.take_succ_eq_append_getElem h,List.all_append,ha];simp [hp]
theorem ZG {α:Type} {p:α→Bool} {l:List α} {i:Nat} (h:i<l.length) (hp:p l[i]=false):l.all p=false:=by
 rw [← Bool.not_eq_true]
 intro hall
 have:=List.all_eq_true.1 hall l[i] (List.getElem_mem h)
 rw [hp] at this;cases this
theorem Tryz.few (set:List (List Int)):Pure Tryz.prog 4 [.list (set.map enL)] [.bool (La set)]:=by
 refine Pure.of_wp hT (nt:=_) (c:=_) Tryz.func4 rfl rfl rfl rfl (by kernel_rfl) ?_
 intro w0 ok0 β0
 repeat first | refine W1 ?_ | refine W3 ?_ | ((first | refine W2 hT hM [] ?_ | refine W4 ?_ | refine W5 ?_ | refine W6 ?_ | refine W7 ?_ rfl);conv=>whnf)
 (split<;>rename_i hb<;>(try rw [hb])<;>(conv=>whnf))
 ·repeat first | refine W1 ?_ | refine W3 ?_ | ((first | refine W2 hT hM [] ?_ | refine W4 ?_ | refine W5 ?_ | refine W6 ?_ | refine W7 ?_ rfl);conv=>whnf)
  have:¬ set.length≤12:=by simp at hb;omega
  simp [La,this]
 ·have hs:set.length≤12:=by simp at hb;omega
  clear hb
  repeat first | refine W1 ?_ | refine W3 ?_ | ((first | refine W2 hT hM [] ?_ | refine W4 ?_ | refine W5 ?_ | refine W6 ?_ | refine W7 ?_ rfl);conv=>whnf)
  refine WP.loop (α:=Nat) (fun i=>⟨[(0,.d (.list (set.map enL))),(3,.d (.int .i64 i))],[],[]⟩) (fun i=>i≤set.length∧(set.take i).all (fun r=>decide (r.length≤30))=true) (fun i=>set.length-i) 0 [] [] ?_ ?_ ?_
  ·((conv=>whnf);repeat (first | exact True.intro | (refine And.intro (by first | rfl | exact ⟨rfl,rfl,rfl⟩ | exact ⟨rfl,rfl,by simp⟩ | exact ⟨rfl,rfl⟩ | exact ⟨rfl,by simp⟩ | (simp;done) | (simp;omega)) ?_;conv=>whnf)))
  ·simp
  ·rintro i ⟨hi,hall⟩
   repeat first | refine W1 ?_ | refine W3 ?_ | ((first | refine W2 hT hM [] ?_ | refine W4 ?_ | refine W5 ?_ | refine W6 ?_ | refine W7 ?_ rfl);conv=>whnf)
   (split<;>rename_i hb<;>(try rw [hb])<;>(conv=>whnf))
   ·have hlt:i<set.length:=by simpa using hb
    clear hb
    repeat first | refine W1 ?_ | refine W3 ?_ | ((first | refine W2 hT hM [] ?_ | refine W4 ?_ | refine W5 ?_ | refine W6 ?_ | refine W7 ?_ rfl);conv=>whnf)
    refine ⟨by omega,_,bn hlt,rfl,?_⟩
    conv=>whnf
    repeat first | refine W1 ?_ | refine W3 ?_ | ((first | refine W2 hT hM [] ?_ | refine W4 ?_ | refine W5 ?_ | refine W6 ?_ | refine W7 ?_ rfl);conv=>whnf)
    (split<;>rename_i hb<;>(try rw [hb])<;>(conv=>whnf))
    ·repeat first | refine W1 ?_ | refine W3 ?_ | ((first | refine W2 hT hM [] ?_ | refine W4 ?_ | refine W5 ?_ | refine W6 ?_ | refine W7 ?_ rfl);conv=>whnf)
     have:(fun r:List Int=>decide (r.length≤30)) set[i]=false:=by simp at hb ⊢;omega
     rw [La,ZG (p:=fun r=>decide (r.length≤30)) hlt this,Bool.and_false]
    ·repeat first | refine W1 ?_ | refine W3 ?_ | ((first | refine W2 hT hM [] ?_ | refine W4 ?_ | refine W5 ?_ | refine W6 ?_ | refine W7 ?_ rfl);conv=>whnf)
     refine ⟨by omega,?_⟩
     conv=>whnf
     refine ⟨i+1,[],[],?_,⟨by omega,WE hlt hall (by simp at hb ⊢;omega)⟩,by omega⟩
     ((conv=>whnf);repeat (first | exact True.intro | (refine And.intro (by first | rfl | exact ⟨rfl,rfl,rfl⟩ | exact ⟨rfl,rfl,by simp⟩ | exact ⟨rfl,rfl⟩ | exact ⟨rfl,by simp⟩ | (simp;done) | (simp;omega)) ?_;conv=>whnf)))
   ·have:i=set.length:=by simp at hb;omega
    subst this
    repeat first | refine W1 ?_ | refine W3 ?_ | ((first | refine W2 hT hM [] ?_ | refine W4 ?_ | refine W5 ?_ | refine W6 ?_ | refine W7 ?_ rfl);conv=>whnf)
    rw [List.take_length] at hall
    rw [La,hall]
    simp [hs]
theorem Tryz.Uc (l:List Int) (x:Int) (hl:l.length≤1000000):Pure Tryz.prog 24 [.list (l.map enI),.int .i64 x] [.bool (decide (x∈l))]:=by
 refine Pure.of_wp hT (nt:=_) (c:=_) Tryz.func24 rfl rfl rfl rfl (by kernel_rfl) ?_
 intro w0 ok0 β0
 repeat first | refine W1 ?_ | refine W3 ?_ | ((first | refine W2 hT hM [] ?_ | refine W4 ?_ | refine W5 ?_ | refine W6 ?_ | refine W7 ?_ rfl);conv=>whnf)
 refine WP.loop (α:=Nat) (fun i=>⟨[(0,.d (.list (l.map enI))),(1,.d (.int .i64 x)),(5,.d (.int .i64 i))],[],[]⟩) (fun i=>i≤l.length∧x∉l.take i) (fun i=>l.length-i) 0 [] [] ?_ ?_ ?_
 ·((conv=>whnf);repeat (first | exact True.intro | (refine And.intro (by first | rfl | exact ⟨rfl,rfl,rfl⟩ | exact ⟨rfl,rfl,by simp⟩ | exact ⟨rfl,rfl⟩ | exact ⟨rfl,by simp⟩ | (simp;done) | (simp;omega)) ?_;conv=>whnf)))
 ·simp
 ·rintro i ⟨hi,hx⟩
  repeat first | refine W1 ?_ | refine W3 ?_ | ((first | refine W2 hT hM [] ?_ | refine W4 ?_ | refine W5 ?_ | refine W6 ?_ | refine W7 ?_ rfl);conv=>whnf)
  (split<;>rename_i hb<;>(try rw [hb])<;>(conv=>whnf))
  ·have hlt:i<l.length:=by simpa using hb
   clear hb
   repeat first | refine W1 ?_ | refine W3 ?_ | ((first | refine W2 hT hM [] ?_ | refine W4 ?_ | refine W5 ?_ | refine W6 ?_ | refine W7 ?_ rfl);conv=>whnf)
   refine ⟨by omega,_,bn hlt,rfl,?_⟩
   conv=>whnf
   repeat first | refine W1 ?_ | refine W3 ?_ | ((first | refine W2 hT hM [] ?_ | refine W4 ?_ | refine W5 ?_ | refine W6 ?_ | refine W7 ?_ rfl);conv=>whnf)
   (split<;>rename_i hb<;>(try rw [hb])<;>(conv=>whnf))
   ·repeat first | refine W1 ?_ | refine W3 ?_ | ((first | refine W2 hT hM [] ?_ | refine W4 ?_ | refine W5 ?_ | refine W6 ?_ | refine W7 ?_ rfl);conv=>whnf)
    have:x∈l:=by
     have:l[i]=x:=by simpa using hb
     rw [← this];exact List.getElem_mem hlt
    simp [this]
   ·repeat first | refine W1 ?_ | refine W3 ?_ | ((first | refine W2 hT hM [] ?_ | refine W4 ?_ | refine W5 ?_ | refine W6 ?_ | refine W7 ?_ rfl);conv=>whnf)
    refine ⟨by omega,?_⟩
    conv=>whnf
    refine ⟨i+1,[],[],?_,⟨by omega,?_⟩,by omega⟩
    ·((conv=>whnf);repeat (first | exact True.intro | (refine And.intro (by first | rfl | exact ⟨rfl,rfl,rfl⟩ | exact ⟨rfl,rfl,by simp⟩ | exact ⟨rfl,rfl⟩ | exact ⟨rfl,by simp⟩ | (simp;done) | (simp;omega)) ?_;conv=>whnf)))
    ·rw [List.take_succ_eq_append_getElem hlt]
     have:l[i]≠x:=by simpa using hb
     intro hm
     rcases List.mem_append.1 hm with h | h
     ·exact hx h
     ·exact this (List.mem_singleton.1 h).symm
  ·have:i=l.length:=by simp at hb;omega
   subst this
   repeat first | refine W1 ?_ | refine W3 ?_ | ((first | refine W2 hT hM [] ?_ | refine W4 ?_ | refine W5 ?_ | refine W6 ?_ | refine W7 ?_ rfl);conv=>whnf)
   rw [List.take_length] at hx
   simp [hx]
theorem Tryz.Ls (set:List (List Int)) (state:List Int) (hl:set.length≤1000000) (hr:∀ r∈set,r.length≤1000000) (hs:state.length≤1000000) :
  Pure Tryz.prog 10 [.list (set.map enL),.list (state.map enI)] [.bool (decide (state∈set))]:=by
 refine Pure.of_wp hT (nt:=_) (c:=_) Tryz.func10 rfl rfl rfl rfl (by kernel_rfl) ?_
 intro w0 ok0 β0
 repeat first | refine W1 ?_ | refine W3 ?_ | ((first | refine W2 hT hM [] ?_ | refine W4 ?_ | refine W5 ?_ | refine W6 ?_ | refine W7 ?_ rfl);conv=>whnf)
 refine WP.loop (α:=Nat) (fun i=>⟨[(0,.d (.list (set.map enL))),(1,.d (.list (state.map enI))),(5,.d (.int .i64 i))],[],[]⟩) (fun i=>i≤set.length∧state∉set.take i) (fun i=>set.length-i) 0 [] [] ?_ ?_ ?_
 ·((conv=>whnf);repeat (first | exact True.intro | (refine And.intro (by first | rfl | exact ⟨rfl,rfl,rfl⟩ | exact ⟨rfl,rfl,by simp⟩ | exact ⟨rfl,rfl⟩ | exact ⟨rfl,by simp⟩ | (simp;done) | (simp;omega)) ?_;conv=>whnf)))
 ·simp
 ·rintro i ⟨hi,hx⟩
  repeat first | refine W1 ?_ | refine W3 ?_ | ((first | refine W2 hT hM [] ?_ | refine W4 ?_ | refine W5 ?_ | refine W6 ?_ | refine W7 ?_ rfl);conv=>whnf)
  (split<;>rename_i hb<;>(try rw [hb])<;>(conv=>whnf))
  ·have hlt:i<set.length:=by simpa using hb
   clear hb
   repeat first | refine W1 ?_ | refine W3 ?_ | ((first | refine W2 hT hM [] ?_ | refine W4 ?_ | refine W5 ?_ | refine W6 ?_ | refine W7 ?_ rfl);conv=>whnf)
   refine ⟨by omega,_,bn hlt,rfl,?_⟩
   conv=>whnf
   refine .inl ⟨_,Tryz.DR _ _ (hr _ (List.getElem_mem hlt)) hs,.inl rfl,?_⟩
   conv=>whnf
   repeat first | refine W1 ?_ | refine W3 ?_ | ((first | refine W2 hT hM [] ?_ | refine W4 ?_ | refine W5 ?_ | refine W6 ?_ | refine W7 ?_ rfl);conv=>whnf)
   (split<;>rename_i hb<;>(try rw [hb])<;>(conv=>whnf))
   ·repeat first | refine W1 ?_ | refine W3 ?_ | ((first | refine W2 hT hM [] ?_ | refine W4 ?_ | refine W5 ?_ | refine W6 ?_ | refine W7 ?_ rfl);conv=>whnf)
    have:state∈set:=by
     have:set[i]=state:=jH.1 (by simpa using hb)
     rw [← this];exact List.getElem_mem hlt
    simp [this]
   ·repeat first | refine W1 ?_ | refine W3 ?_ | ((first | refine W2 hT hM [] ?_ | refine W4 ?_ | refine W5 ?_ | refine W6 ?_ | refine W7 ?_ rfl);conv=>whnf)
    refine ⟨by omega,?_⟩
    conv=>whnf
    refine ⟨i+1,[],[],?_,⟨by omega,?_⟩,by omega⟩
    ·((conv=>whnf);repeat (first | exact True.intro | (refine And.intro (by first | rfl | exact ⟨rfl,rfl,rfl⟩ | exact ⟨rfl,rfl,by simp⟩ | exact ⟨rfl,rfl⟩ | exact ⟨rfl,by simp⟩ | (simp;done) | (simp;omega)) ?_;conv=>whnf)))
    ·rw [List.take_succ_eq_append_getElem hlt]
     have:set[i]≠state:=fun e=>by rw [e] at hb;simp [jH.2 rfl] at hb
     intro hm
     rcases List.mem_append.1 hm with h | h
     ·exact hx h
     ·exact this (List.mem_singleton.1 h).symm
  ·have:i=set.length:=by simp at hb;omega
   subst this
   repeat first | refine W1 ?_ | refine W3 ?_ | ((first | refine W2 hT hM [] ?_ | refine W4 ?_ | refine W5 ?_ | refine W6 ?_ | refine W7 ?_ rfl);conv=>whnf)
   rw [List.take_length] at hx
   simp [hx]
end Go.Proofs.YtdbkblcekmogkaaGreatDoor
namespace Go.Proofs.YtdbkblcekmogkaaGreatDoor
open Go Go.Abs Go.Own
attribute [local irreducible] WP
theorem wrap_u64 (n:Nat) (h:n<18446744073709551616):IntKind.u64.wrap (n:Int)=n:=by
 have:(n:Int) % 18446744073709551616=n:=by omega
 simp [IntKind.wrap,IntKind.bits,IntKind.signed,this]
theorem IK (n:Nat):((n:Int)).fdiv (2 ^ min (Int.toNat 1) IntKind.u64.bits)=((n / 2:Nat):Int):=by
 show Int.fdiv (n:Int) 2=_
 rw [Int.fdiv_eq_ediv_of_nonneg _ (by decide)]
 omega
theorem Tryz.agt (l:List Int) (x:Int) (f:Nat) (c:Int→Int) (hf:∀ a∈l,Pure Tryz.prog f [.int .i64 a,.int .i64 x] [.int .i64 (c a)]) (hl:l.length≤1000000) (k:Nat) (hk:k≤l.length)
  (h1:∀ i (h:i<l.length),i<k→c l[i]<0) (h2:∀ i (h:i<l.length),k≤i→¬ c l[i]<0) :
  Pure Tryz.prog 55 [.list (l.map enI),.int .i64 x,.fn f []] [.int .i64 k,.bool (hit c l[k]?)]:=by
 refine Pure.of_wp hT (nt:=_) (c:=_) Tryz.func55 rfl rfl rfl rfl (by kernel_rfl) ?_
 intro w0 ok0 β0
 repeat first | refine W1 ?_ | refine W3 ?_ | ((first | refine W2 hT hM [] ?_ | refine W4 ?_ | refine W5 ?_ | refine W6 ?_ | refine W7 ?_ rfl);conv=>whnf)
 refine WP.loop (α:=Nat×Nat) (fun s=>⟨[(0,.d (.list (l.map enI))),(1,.d (.int .i64 x)),(2,.d (.fn f [])),(8,.d (.int .i64 l.length)),(9,.d (.int .i64 s.1)),(10,.d (.int .i64 s.2))],[],[]⟩)
  (fun s=>s.1≤k∧k≤s.2∧s.2≤l.length) (fun s=>s.2-s.1) (0,l.length) [] [] ?_ ?_ ?_
 ·((conv=>whnf);repeat (first | exact True.intro | (refine And.intro (by first | rfl | exact ⟨rfl,rfl,rfl⟩ | exact ⟨rfl,rfl,by simp⟩ | exact ⟨rfl,rfl⟩ | exact ⟨rfl,by simp⟩ | (simp;done) | (simp;omega)) ?_;conv=>whnf)))
 ·simp;omega
 ·rintro ⟨i,j⟩ ⟨q1,q2,q3⟩
  simp only at q1 q2 q3
  repeat first | refine W1 ?_ | refine W3 ?_ | ((first | refine W2 hT hM [] ?_ | refine W4 ?_ | refine W5 ?_ | refine W6 ?_ | refine W7 ?_ rfl);conv=>whnf)
  (split<;>rename_i hb<;>(try rw [hb])<;>(conv=>whnf))
  ·have hlt:i<j:=by simpa using hb
   clear hb
   repeat first | refine W1 ?_ | refine W3 ?_ | ((first | refine W2 hT hM [] ?_ | refine W4 ?_ | refine W5 ?_ | refine W6 ?_ | refine W7 ?_ rfl);conv=>whnf)
   refine ⟨by omega,?_⟩
   conv=>whnf
   repeat first | refine W1 ?_ | refine W3 ?_ | ((first | refine W2 hT hM [] ?_ | refine W4 ?_ | refine W5 ?_ | refine W6 ?_ | refine W7 ?_ rfl);conv=>whnf)
   rw [show (((i,j).fst:Nat):Int)+(((i,j).snd:Nat):Int)=((i+j:Nat):Int) from rfl,wrap_u64 _ (by omega)]
   refine ⟨by omega,?_⟩
   conv=>whnf
   repeat first | refine W1 ?_ | refine W3 ?_ | ((first | refine W2 hT hM [] ?_ | refine W4 ?_ | refine W5 ?_ | refine W6 ?_ | refine W7 ?_ rfl);conv=>whnf)
   rw [IK]
   refine ⟨by omega,?_⟩
   conv=>whnf
   repeat first | refine W1 ?_ | refine W3 ?_ | ((first | refine W2 hT hM [] ?_ | refine W4 ?_ | refine W5 ?_ | refine W6 ?_ | refine W7 ?_ rfl);conv=>whnf)
   have hh:(i+j) / 2<l.length:=by omega
   refine ⟨by omega,_,bn hh,rfl,?_⟩
   conv=>whnf
   refine .inl ⟨_,hf _ (List.getElem_mem hh),.inl rfl,?_⟩
   conv=>whnf
   repeat first | refine W1 ?_ | refine W3 ?_ | ((first | refine W2 hT hM [] ?_ | refine W4 ?_ | refine W5 ?_ | refine W6 ?_ | refine W7 ?_ rfl);conv=>whnf)
   (split<;>rename_i hb<;>(try rw [hb])<;>(conv=>whnf))
   ·have hc:c l[(i+j) / 2]<0:=by simpa using hb
    have hk':(i+j) / 2<k:=by
     rcases Nat.lt_or_ge ((i+j) / 2) k with h | h
     ·exact h
     ·exact absurd hc (h2 _ hh h)
    repeat first | refine W1 ?_ | refine W3 ?_ | ((first | refine W2 hT hM [] ?_ | refine W4 ?_ | refine W5 ?_ | refine W6 ?_ | refine W7 ?_ rfl);conv=>whnf)
    refine ⟨by omega,?_⟩
    conv=>whnf
    repeat first | refine W1 ?_ | refine W3 ?_ | ((first | refine W2 hT hM [] ?_ | refine W4 ?_ | refine W5 ?_ | refine W6 ?_ | refine W7 ?_ rfl);conv=>whnf)
    refine ⟨((i+j) / 2+1,j),[],[],?_,⟨by simp only;omega,by simp only;omega,by simp only;omega⟩,by simp only;omega⟩
    ((conv=>whnf);repeat (first | exact True.intro | (refine And.intro (by first | rfl | exact ⟨rfl,rfl,rfl⟩ | exact ⟨rfl,rfl,by simp⟩ | exact ⟨rfl,rfl⟩ | exact ⟨rfl,by simp⟩ | (simp;done) | (simp;omega)) ?_;conv=>whnf)))
   ·have hc:¬ c l[(i+j) / 2]<0:=by simpa using hb
    have hk':k≤(i+j) / 2:=by
     rcases Nat.lt_or_ge ((i+j) / 2) k with h | h
     ·exact absurd (h1 _ hh h) hc
     ·exact h
    repeat first | refine W1 ?_ | refine W3 ?_ | ((first | refine W2 hT hM [] ?_ | refine W4 ?_ | refine W5 ?_ | refine W6 ?_ | refine W7 ?_ rfl);conv=>whnf)
    refine ⟨(i,(i+j) / 2),[],[],?_,⟨by simp only;omega,by simp only;omega,by simp only;omega⟩,by simp only;omega⟩
    ((conv=>whnf);repeat (first | exact True.intro | (refine And.intro (by first | rfl | exact ⟨rfl,rfl,rfl⟩ | exact ⟨rfl,rfl,by simp⟩ | exact ⟨rfl,rfl⟩ | exact ⟨rfl,by simp⟩ | (simp;done) | (simp;omega)) ?_;conv=>whnf)))
  ·have e1:i=k:=by simp at hb;omega
   have e2:j=k:=by simp at hb;omega
   subst e1;subst e2
   clear hb
   repeat first | refine W1 ?_ | refine W3 ?_ | ((first | refine W2 hT hM [] ?_ | refine W4 ?_ | refine W5 ?_ | refine W6 ?_ | refine W7 ?_ rfl);conv=>whnf)
   (split<;>rename_i hb<;>(try rw [hb])<;>(conv=>whnf))
   ·have hlt:j<l.length:=by simpa using hb
    refine ⟨by omega,_,bn hlt,rfl,?_⟩
    conv=>whnf
    refine .inl ⟨_,hf _ (List.getElem_mem hlt),.inl rfl,?_⟩
    conv=>whnf
    repeat first | refine W1 ?_ | refine W3 ?_ | ((first | refine W2 hT hM [] ?_ | refine W4 ?_ | refine W5 ?_ | refine W6 ?_ | refine W7 ?_ rfl);conv=>whnf)
    rw [List.getElem?_eq_getElem hlt]
    rfl
   ·have hge:l.length≤j:=by simp at hb;omega
    repeat first | refine W1 ?_ | refine W3 ?_ | ((first | refine W2 hT hM [] ?_ | refine W4 ?_ | refine W5 ?_ | refine W6 ?_ | refine W7 ?_ rfl);conv=>whnf)
    rw [List.getElem?_eq_none hge]
    rfl
theorem Tryz.ags (l:List (List Int)) (x:List Int) (f:Nat) (c:List Int→Int) (hf:∀ a∈l,Pure Tryz.prog f [.list (a.map enI),.list (x.map enI)] [.int .i64 (c a)]) (hl:l.length≤1000000) (k:Nat) (hk:k≤l.length)
  (h1:∀ i (h:i<l.length),i<k→c l[i]<0) (h2:∀ i (h:i<l.length),k≤i→¬ c l[i]<0) :
  Pure Tryz.prog 26 [.list (l.map enL),.list (x.map enI),.fn f []] [.int .i64 k,.bool (hit c l[k]?)]:=by
 refine Pure.of_wp hT (nt:=_) (c:=_) Tryz.func26 rfl rfl rfl rfl (by kernel_rfl) ?_
 intro w0 ok0 β0
 repeat first | refine W1 ?_ | refine W3 ?_ | ((first | refine W2 hT hM [] ?_ | refine W4 ?_ | refine W5 ?_ | refine W6 ?_ | refine W7 ?_ rfl);conv=>whnf)
 refine WP.loop (α:=Nat×Nat) (fun s=>⟨[(0,.d (.list (l.map enL))),(1,.d (.list (x.map enI))),(2,.d (.fn f [])),(8,.d (.int .i64 l.length)),(9,.d (.int .i64 s.1)),(10,.d (.int .i64 s.2))],[],[]⟩)
  (fun s=>s.1≤k∧k≤s.2∧s.2≤l.length) (fun s=>s.2-s.1) (0,l.length) [] [] ?_ ?_ ?_
 ·((conv=>whnf);repeat (first | exact True.intro | (refine And.intro (by first | rfl | exact ⟨rfl,rfl,rfl⟩ | exact ⟨rfl,rfl,by simp⟩ | exact ⟨rfl,rfl⟩ | exact ⟨rfl,by simp⟩ | (simp;done) | (simp;omega)) ?_;conv=>whnf)))
 ·simp;omega
 ·rintro ⟨i,j⟩ ⟨q1,q2,q3⟩
  simp only at q1 q2 q3
  repeat first | refine W1 ?_ | refine W3 ?_ | ((first | refine W2 hT hM [] ?_ | refine W4 ?_ | refine W5 ?_ | refine W6 ?_ | refine W7 ?_ rfl);conv=>whnf)
  (split<;>rename_i hb<;>(try rw [hb])<;>(conv=>whnf))
  ·have hlt:i<j:=by simpa using hb
   clear hb
   repeat first | refine W1 ?_ | refine W3 ?_ | ((first | refine W2 hT hM [] ?_ | refine W4 ?_ | refine W5 ?_ | refine W6 ?_ | refine W7 ?_ rfl);conv=>whnf)
   refine ⟨by omega,?_⟩
   conv=>whnf
   repeat first | refine W1 ?_ | refine W3 ?_ | ((first | refine W2 hT hM [] ?_ | refine W4 ?_ | refine W5 ?_ | refine W6 ?_ | refine W7 ?_ rfl);conv=>whnf)
   rw [show (((i,j).fst:Nat):Int)+(((i,j).snd:Nat):Int)=((i+j:Nat):Int) from rfl,wrap_u64 _ (by omega)]
   refine ⟨by omega,?_⟩
   conv=>whnf
   repeat first | refine W1 ?_ | refine W3 ?_ | ((first | refine W2 hT hM [] ?_ | refine W4 ?_ | refine W5 ?_ | refine W6 ?_ | refine W7 ?_ rfl);conv=>whnf)
   rw [IK]
   refine ⟨by omega,?_⟩
   conv=>whnf
   repeat first | refine W1 ?_ | refine W3 ?_ | ((first | refine W2 hT hM [] ?_ | refine W4 ?_ | refine W5 ?_ | refine W6 ?_ | refine W7 ?_ rfl);conv=>whnf)
   have hh:(i+j) / 2<l.length:=by omega
   refine ⟨by omega,_,bn hh,rfl,?_⟩
   conv=>whnf
   refine .inl ⟨_,hf _ (List.getElem_mem hh),.inl rfl,?_⟩
   conv=>whnf
   repeat first | refine W1 ?_ | refine W3 ?_ | ((first | refine W2 hT hM [] ?_ | refine W4 ?_ | refine W5 ?_ | refine W6 ?_ | refine W7 ?_ rfl);conv=>whnf)
   (split<;>rename_i hb<;>(try rw [hb])<;>(conv=>whnf))
   ·have hc:c l[(i+j) / 2]<0:=by simpa using hb
    have hk':(i+j) / 2<k:=by
     rcases Nat.lt_or_ge ((i+j) / 2) k with h | h
     ·exact h
     ·exact absurd hc (h2 _ hh h)
    repeat first | refine W1 ?_ | refine W3 ?_ | ((first | refine W2 hT hM [] ?_ | refine W4 ?_ | refine W5 ?_ | refine W6 ?_ | refine W7 ?_ rfl);conv=>whnf)
    refine ⟨by omega,?_⟩
    conv=>whnf
    repeat first | refine W1 ?_ | refine W3 ?_ | ((first | refine W2 hT hM [] ?_ | refine W4 ?_ | refine W5 ?_ | refine W6 ?_ | refine W7 ?_ rfl);conv=>whnf)
    refine ⟨((i+j) / 2+1,j),[],[],?_,⟨by simp only;omega,by simp only;omega,by simp only;omega⟩,by simp only;omega⟩
    ((conv=>whnf);repeat (first | exact True.intro | (refine And.intro (by first | rfl | exact ⟨rfl,rfl,rfl⟩ | exact ⟨rfl,rfl,by simp⟩ | exact ⟨rfl,rfl⟩ | exact ⟨rfl,by simp⟩ | (simp;done) | (simp;omega)) ?_;conv=>whnf)))
   ·have hc:¬ c l[(i+j) / 2]<0:=by simpa using hb
    have hk':k≤(i+j) / 2:=by
     rcases Nat.lt_or_ge ((i+j) / 2) k with h | h
     ·exact absurd (h1 _ hh h) hc
     ·exact h
    repeat first | refine W1 ?_ | refine W3 ?_ | ((first | refine W2 hT hM [] ?_ | refine W4 ?_ | refine W5 ?_ | refine W6 ?_ | refine W7 ?_ rfl);conv=>whnf)
    refine ⟨(i,(i+j) / 2),[],[],?_,⟨by simp only;omega,by simp only;omega,by simp only;omega⟩,by simp only;omega⟩
    ((conv=>whnf);repeat (first | exact True.intro | (refine And.intro (by first | rfl | exact ⟨rfl,rfl,rfl⟩ | exact ⟨rfl,rfl,by simp⟩ | exact ⟨rfl,rfl⟩ | exact ⟨rfl,by simp⟩ | (simp;done) | (simp;omega)) ?_;conv=>whnf)))
  ·have e1:i=k:=by simp at hb;omega
   have e2:j=k:=by simp at hb;omega
   subst e1;subst e2
   clear hb
   repeat first | refine W1 ?_ | refine W3 ?_ | ((first | refine W2 hT hM [] ?_ | refine W4 ?_ | refine W5 ?_ | refine W6 ?_ | refine W7 ?_ rfl);conv=>whnf)
   (split<;>rename_i hb<;>(try rw [hb])<;>(conv=>whnf))
   ·have hlt:j<l.length:=by simpa using hb
    refine ⟨by omega,_,bn hlt,rfl,?_⟩
    conv=>whnf
    refine .inl ⟨_,hf _ (List.getElem_mem hlt),.inl rfl,?_⟩
    conv=>whnf
    repeat first | refine W1 ?_ | refine W3 ?_ | ((first | refine W2 hT hM [] ?_ | refine W4 ?_ | refine W5 ?_ | refine W6 ?_ | refine W7 ?_ rfl);conv=>whnf)
    rw [List.getElem?_eq_getElem hlt]
    rfl
   ·have hge:l.length≤j:=by simp at hb;omega
    repeat first | refine W1 ?_ | refine W3 ?_ | ((first | refine W2 hT hM [] ?_ | refine W4 ?_ | refine W5 ?_ | refine W6 ?_ | refine W7 ?_ rfl);conv=>whnf)
    rw [List.getElem?_eq_none hge]
    rfl
end Go.Proofs.YtdbkblcekmogkaaGreatDoor
namespace Go.Proofs
open Go.Shelf
def Tryz.insI_ren:Go.Shelf.Ren:=⟨fun | 21=>56 | 27=>90 | 28=>91 | 35=>147 | 39=>216 | n=>n,fun | 22=>23 | 3=>3 | 4=>4 | 0=>0 | n=>n,fun | n=>n⟩
theorem Tryz.insI:Go.Proofs.Lays2.n21 Tryz.prog Tryz.insI_ren:={
 mixed:=by kernel_rfl
 f21:=Tryz.func56.trans (congrArg some (by kernel_rfl))
 f27:=Tryz.func90.trans (congrArg some (by kernel_rfl))
 f28:=Tryz.func91.trans (congrArg some (by kernel_rfl))
 f35:=Tryz.func147.trans (congrArg some (by kernel_rfl))
 f39:=Tryz.func216.trans (congrArg some (by kernel_rfl))
 t0:=Tryz.underlying0
 a0:=Tryz.isAgg0
 z0:=Tryz.sizeOf0
 v0:=Tryz.zeroValue0
 t3:=Tryz.underlying3
 a3:=Tryz.isAgg3
 z3:=Tryz.sizeOf3
 v3:=Tryz.zeroValue3
 t4:=Tryz.underlying4
 a4:=Tryz.isAgg4
 z4:=Tryz.sizeOf4
 v4:=Tryz.zeroValue4
 t22:=Tryz.underlying23
 a22:=Tryz.isAgg23
 z22:=Tryz.sizeOf23
 v22:=Tryz.zeroValue23
 i3:=by kernel_rfl }
end Go.Proofs
namespace Go.Proofs.YtdbkblcekmogkaaGreatDoor
open Go Go.Abs Go.Own Go.RowKit
theorem eH {b:Nat} {T:TypeId} {fz:Nat×Nat}:∀ (vs:List Value) (o:Nat) (w:World) (cur:Array Value),w.heap[b]?=some (.cells cur T fz)→o+vs.length≤cur.size →
  (w.setCells b o vs).heap[b]?=some (.cells (patch cur o vs) T fz)∧(w.setCells b o vs).heap.size=w.heap.size∧(∀ b',b'≠b→(w.setCells b o vs).heap[b']?=w.heap[b']?) ∧
  (w.setCells b o vs).os=w.os∧(w.setCells b o vs).tape=w.tape∧(w.setCells b o vs).output=w.output
 | [],o,w,cur,h,hl=>by
   refine ⟨?_,rfl,fun _ _=>rfl,rfl,rfl,rfl⟩
   show w.heap[b]?=_
   rw [h];simp [patch]
 | v::r,o,w,cur,h,hl=>by
   have h1:(w.setCell ⟨b,o,none⟩ v).heap[b]?=some (.cells (cur.setIfInBounds o v) T fz):=by
    simp [World.setCell,Array.getElem?_modify,h]
   obtain ⟨g1,g2,g3,g4,g5,g6⟩:=eH r (o+1) (w.setCell ⟨b,o,none⟩ v) _ h1 (by simp at hl ⊢;omega)
   refine ⟨?_,?_,fun b' hb'=>?_,g4,g5,g6⟩
   ·show ((w.setCell ⟨b,o,none⟩ v).setCells b (o+1) r).heap[b]?=_
    rw [g1]
    simp only [List.length_cons] at hl
    have e:patch (cur.setIfInBounds o v) (o+1) r=patch cur o (v::r):=by
     apply Array.ext_getElem?
     intro i
     have e1:(patch (cur.setIfInBounds o v) (o+1) r).size=cur.size:=by rw [size_patch (by simp;omega)];simp
     rcases Nat.lt_or_ge i o with hi | hi
     ·rw [patch_out (by simp;omega) (.inl (by omega)),patch_out (by simp;omega) (.inl hi)]
      rw [Array.getElem?_setIfInBounds_ne (by omega)]
     ·rcases Nat.lt_or_ge i (o+1) with hi2 | hi2
      ·obtain rfl:i=o:=by omega
       have h0:=patch_in (cur:=cur) (o:=i) (vs:=v::r) (by simp;omega) (i:=0) (by simp)
       rw [Nat.add_zero] at h0
       rw [patch_out (by simp;omega) (.inl (by omega)),h0]
       rw [Array.getElem?_setIfInBounds_self_of_lt (by omega)]
       rfl
      ·rcases Nat.lt_or_ge i (o+1+r.length) with hi3 | hi3
       ·obtain ⟨d,rfl⟩:∃ d,i=o+1+d:=⟨i-(o+1),by omega⟩
        rw [patch_in (by simp;omega) (by omega),show o+1+d=o+(d+1) by omega,patch_in (by simp;omega) (by simp;omega)]
        simp
       ·rw [patch_out (by simp;omega) (.inr (by omega)),patch_out (by simp;omega) (.inr (by simp;omega))]
        rw [Array.getElem?_setIfInBounds_ne (by omega)]
    rw [e]
   ·show ((w.setCell ⟨b,o,none⟩ v).setCells b (o+1) r).heap.size=_
    rw [g2];simp [World.setCell]
   ·show ((w.setCell ⟨b,o,none⟩ v).setCells b (o+1) r).heap[b']?=_
    rw [g3 b' hb']
    simp [World.setCell,Array.getElem?_modify,Ne.symm hb']
theorem zf {β:Nat→Value} {u ok:Nat→Prop} {w:World} {v:Value} {id:Nat} {l:List Int} (hv:RdV β u ok w v (.sl id 1 0 l.length)) (ho:Own β u ok w (id,0) (.arr 1 (l.map enI))) :
  ∃ a cap,v = .slice a l.length cap∧l.length≤cap∧cap≤maxLen∧(0<cap→∃ b o cur T,a=some ⟨b,o,none⟩∧aU (β id)=some b∧w.heap[b]?=some (.cells cur T (0,0))∧o+cap≤cur.size ∧
    ∀ i x,l[i]?=some x→cur[o+i]?=some (.int .i64 x)):=by
 obtain ⟨⟨a,cap,hvv,h2,h3,_,_,h5⟩,h6⟩:=ho.2.sub hv (by simp)
 simp only [List.drop_zero,List.length_map] at hvv h2 h5
 rw [show List.take l.length (l.map enI)=l.map enI by rw [List.take_of_length_le (by simp)]] at hvv h2 h5
 simp only [List.length_map] at hvv h2
 refine ⟨a,cap,hvv,h2,h3,fun hc=>?_⟩
 obtain ⟨b,o,cur,T,ha,hb,hs,he⟩:=h5 hc
 refine ⟨b,o,cur,T,ha,h6 b (by rw [hvv,ha];cases cap with
  | zero=>omega
  | succ n=>rfl),hb,by omega,fun i x hx=>?_⟩
 obtain ⟨u0,p1,p2,_⟩:=he i (enI x) 0 (enI x) (by simp [hx]) rfl
 rw [show o+(i*1+0)=o+i by omega] at p1
 cases p2
 exact p1
theorem AO (l:List Int):∀ v∈l.map (Value.int .i64),v.oneCell'=true:=by
 intro v hv
 obtain ⟨x,_,rfl⟩:=List.mem_map.1 hv
 rfl
theorem tN {β:Nat→Value} {ok:Nat→Prop} {w w':World} {pre:List (Key×Res)} {res:List Int} {b o cap:Nat} {cur:Array Value} {T:TypeId}
  (hok:∀ b,ok b→b<w.heap.size) (hb:w'.heap[b]?=some (.cells cur T (0,0))) (hc:res.length≤cap) (hm:cap≤maxLen) (h0:0<res.length) (hs:o+cap≤cur.size) (he:∀ i x,res[i]?=some x→cur[o+i]?=some (.int .i64 x))
  (hold:w.heap.size≤b∨(¬ ok b∧∀ o,kS β pre b o)) (hf:Abs.Frame (kS β pre) w w') (U:List Nat) (hU:2∉U) :
  ∃ v β' ok',Ending.returned (.slice (some ⟨b,o,none⟩) res.length cap) = .returned v∧(∀ i,i∈U→β' i=β i)∧RdV β' (fun i=>i∈U∨i∈[2]) ok' w' v (resV [.sl 2 1 0 res.length]) ∧
    (∀ k r,(k,r)∈[((2,0),Res.arr 1 (res.map enI))]→(k.1∈U∨k.1∈[2])∧Own β' (fun i=>i∈U∨i∈[2]) ok' w' k r) ∧
    (∀ k r b,(k,r)∈[((2,0),Res.arr 1 (res.map enI))]→aU (β' k.1)=some b→¬ ok' b∧b<w'.heap.size∧(b<w.heap.size→match r with | .cell _=>k.1∈U∧kS β pre b k.2 | _=>∀ o,kS β pre b o)) ∧
    (∀ k k' r r' b,(k,r)∈[((2,0),Res.arr 1 (res.map enI))]→(k',r')∈[((2,0),Res.arr 1 (res.map enI))]→aU (β' k.1)=some b→aU (β' k'.1)=some b→k.1=k'.1) ∧
    (∀ b,ok' b→b<w'.heap.size)∧(∀ b,ok b→ok' b)∧(∀ b,ok' b→ok b∨w.heap.size≤b∨∀ o,kS β pre b o)∧Abs.Frame (kS β pre) w w':=by
 refine ⟨_,fun i=>if i=2 then .slice (some ⟨b,o,none⟩) res.length cap else β i,ok,rfl,fun i hi=>if_neg (fun e:i=2=>hU (e ▸ hi)),?_,fun k r hkr=>?_,fun k r b' hkr hb'=>?_,fun k k' r r' b' hk hk' _ _=>?_,fun b hb=>Nat.lt_of_lt_of_le (hok b hb) hf.size,fun _ h=>h,fun _ h => .inl h,hf⟩
 ·show RdV _ _ _ _ _ (.sl 2 1 0 res.length)
  have:=RdV.sl (β:=fun i=>if i=2 then Value.slice (some ⟨b,o,none⟩) res.length cap else β i) (u:=fun i=>i∈U∨i∈[2]) (ok:=ok) (w:=w') 2 1 0 res.length res.length cap (some ⟨b,o,none⟩) (some ⟨b,o,none⟩) (.inr (by simp)) (by simp) (by omega) hm
   (fun _=>⟨b,o,rfl,by simp⟩)
  simpa using this
 ·obtain ⟨rfl,rfl⟩:k=(2,0)∧r=Res.arr 1 (res.map enI):=by simpa using hkr
  refine ⟨.inr (by simp),rfl,?_⟩
  refine ⟨some ⟨b,o,none⟩,cap,by simp,by simpa using hc,hm,by decide,fun i x hx=>?_,fun hcap=>⟨b,o,cur,T,rfl,hb,by omega,fun i x j c hx hc=>?_⟩⟩
  ·simp only [List.getElem?_map,Option.map_eq_some_iff] at hx
   obtain ⟨y,_,rfl⟩:=hx
   rfl
  ·simp only [List.getElem?_map,Option.map_eq_some_iff] at hx
   obtain ⟨y,hy,rfl⟩:=hx
   cases j with
   | zero=>
     simp [enI,D.cells] at hc
     subst hc
     exact ⟨_,by rw [show o+(i*1+0)=o+i by omega];exact he i y hy,.int _ _,rfl,rfl⟩
   | succ j=>simp [enI,D.cells] at hc
 ·obtain ⟨rfl,rfl⟩:k=(2,0)∧r=Res.arr 1 (res.map enI):=by simpa using hkr
  have e:b'=b:=by
   simp only [if_true] at hb'
   cases cap with
   | zero=>omega
   | succ n=>simpa [aU] using hb'.symm
  subst e
  refine ⟨fun h=>?_,(Array.getElem?_eq_some_iff.1 hb).1,fun hlt=>?_⟩
  ·rcases hold with h1 | h1
   ·have:=hok _ h;omega
   ·exact h1.1 h
  ·rcases hold with h1 | h1
   ·omega
   ·exact h1.2
 ·obtain ⟨rfl,_⟩:k=(2,0)∧r=Res.arr 1 (res.map enI):=by simpa using hk
  obtain ⟨rfl,_⟩:k'=(2,0)∧r'=Res.arr 1 (res.map enI):=by simpa using hk'
  rfl
end Go.Proofs.YtdbkblcekmogkaaGreatDoor
namespace Go.Proofs.YtdbkblcekmogkaaGreatDoor
open Go Go.Abs Go.Own Go.RowKit
theorem E8 {l:List Int} {x:Int} {k:Nat} (hk:k≤l.length) {i:Nat} {y:Int} (h:(l.take k++x::l.drop k)[i]?=some y) :
  (i<k∧l[i]?=some y)∨(i=k∧y=x)∨(∃ d,i=k+1+d∧(l.drop k)[d]?=some y):=by
 rcases Nat.lt_trichotomy i k with hi | hi | hi
 ·rw [List.getElem?_append_left (by simp;omega),List.getElem?_take_of_lt hi] at h
  exact .inl ⟨hi,h⟩
 ·subst hi
  rw [List.getElem?_append_right (by simp;omega)] at h
  simp [Nat.min_eq_left hk] at h
  exact .inr (.inl ⟨rfl,h.symm⟩)
 ·obtain ⟨d,rfl⟩:∃ d,i=k+1+d:=⟨i-(k+1),by omega⟩
  rw [List.getElem?_append_right (by simp;omega),List.length_take,Nat.min_eq_left hk,show k+1+d-k=d+1 by omega,List.getElem?_cons_succ] at h
  exact .inr (.inr ⟨d,rfl,h⟩)
theorem cell_of {w:World} {b o:Nat} {cur:Array Value} {T:TypeId} {fz:Nat×Nat} (h:w.heap[b]?=some (.cells cur T fz)):w.cell? ⟨b,o,none⟩=cur[o]?:=cell_of_row w b o cur T fz h
set_option maxHeartbeats 2000000 in
theorem Tryz.IB (l:List Int) (x:Int) (k:Nat) (hk:k≤l.length) (hl:l.length≤1000000) (res:List Int) (hres:res=l.take k++x::l.drop k) :
  oW Tryz.prog 56 [0,1] [.sl 0 1 0 l.length,.d (.int .i64 k),.sl 1 1 0 1] [((0,0),.arr 1 (l.map enI)),((1,0),.arr 1 [enI x])] [2] [.sl 2 1 0 res.length] [((2,0),.arr 1 (res.map enI))]:=by
 refine ⟨⟨_,Tryz.func56,by kernel_rfl,rfl⟩,fun k r h=>?_,fun β ok w vs hokb hsz hrd hpre hsep hinj=>?_⟩
 ·obtain ⟨rfl,rfl⟩:k=(2,0)∧r=Res.arr 1 (res.map enI):=by simpa using h
  rfl
 obtain ⟨v0,v1,v2,rfl⟩:∃ v0 v1 v2,vs=#[v0,v1,v2]:=by
  have h3:vs.size=3:=hsz
  exact ⟨vs[0],vs[1],vs[2],by apply Array.ext (by simpa using h3);intro i h1 h2;match i,h2 with | 0,_=>rfl | 1,_=>rfl | 2,_=>rfl⟩
 have h0:=hrd 0 v0 (.sl 0 1 0 l.length) rfl rfl
 have h1:=hrd 1 v1 (.d (.int .i64 k)) rfl rfl
 have h2:=hrd 2 v2 (.sl 1 1 0 [x].length) rfl rfl
 obtain ⟨a0,c0,rfl,n0,m0,hc0⟩:=zf h0 (hpre (0,0) _ (by simp)).2
 obtain ⟨a1,c1,rfl,n1,m1,hc1⟩:=zf (l:=[x]) h2 (hpre (1,0) _ (by simp)).2
 obtain ⟨vb,vo,vcur,vT,rfl,vblk,vheap,vsz,vel⟩:=hc1 (by simp at n1;omega)
 have e1:v1 = .int .i64 k:=by cases h1 with | d _ _ h=>cases h;rfl
 subst e1
 have hml:maxLen=9223372036854775807:=rfl
 have hlen:res.length=l.length+1:=by rw [hres];simp;omega
 have hvs:∀ j v,[Value.int .i64 x][j]?=some v→w.cell? ⟨vb,vo+j,none⟩=some v:=fun j v hj=>by
  cases j with
  | zero=>simp at hj;subst hj;rw [cell_of vheap];exact vel 0 x rfl
  | succ j=>simp at hj
 have h1v:∀ v∈[Value.int .i64 x],v.oneCell'=true:=fun v hv=>by simp at hv;subst hv;rfl
 have hU:(2:Nat)∉[0,1]:=by decide
 have pad:∀ (cur:Array Value) (o:Nat),True:=fun _ _=>trivial
 by_cases hroom:l.length+1≤c0
 ·obtain ⟨b,o,cur,T,rfl,hblk,hheap,hsz0,hel⟩:=hc0 (by omega)
  have hne:vb≠b:=fun e=>by
   subst e
   have:=hinj (0,0) (1,0) _ _ vb (List.mem_cons_self) (List.mem_cons_of_mem _ List.mem_cons_self) hblk vblk
   exact absurd this (by decide)
  obtain ⟨hnok,hbs⟩:=hsep (0,0) _ b List.mem_cons_self hblk
  have hwr:∀ o,kS β [((0,0),Res.arr 1 (l.map enI)),((1,0),.arr 1 [enI x])] b o:=fun o=>⟨(0,0),_,List.mem_cons_self,hblk,trivial⟩
  have hbounds:b<w.heap.size:=hbs
  rcases Nat.lt_or_ge k l.length with hkl | hkl
  ·
   have hcs:∀ j v,(l.map (Value.int .i64))[j]?=some v→w.cell? ⟨b,o+j,none⟩=some v:=fun j v hj=>by
    simp only [List.getElem?_map,Option.map_eq_some_iff] at hj
    obtain ⟨y,hy,rfl⟩:=hj
    rw [cell_of hheap];exact hel j y hy
   have hfr:∀ j,w.frozen? ⟨b,j,none⟩=false:=fun j=>by simp [World.frozen?,hheap]
   have hfrv:∀ j,w.frozen? ⟨vb,j,none⟩=false:=fun j=>by simp [World.frozen?,vheap]
   have hc:=Any2.slices_Insert_int_shift Tryz.insI b o l.length c0 k vb vo 1 c1 (l.map (Value.int .i64)) [Value.int .i64 x] w hkl (by decide) hroom (by rw [hml] at m0;omega) hne (by simp) rfl hcs
    (fun j hj=>by rw [cell_of hheap];simp;omega) (fun j _=>hfr _) hvs (AO l) h1v vT T vcur.size cur.size (by simp [World.shape?,vheap]) (by simp [World.shape?,hheap]) (by omega) (hfrv _) (hfrv _)
   refine hc.mono ?_
   rintro e w' ⟨rfl,rfl⟩
   have hlen1:((l.map (Value.int .i64)).drop k).length=l.length-k:=by simp
   obtain ⟨p1,p2,p3,p4,p5,p6⟩:=eH ((l.map (Value.int .i64)).drop k) (o+(k+1)) w.drew cur hheap (by omega)
   obtain ⟨q1,q2,q3,q4,q5,q6⟩:=eH [Value.int .i64 x] (o+k) _ _ p1 (by rw [size_patch (by omega)];simp;omega)
   have hsp:(patch cur (o+(k+1)) ((l.map (Value.int .i64)).drop k)).size=cur.size:=size_patch (by omega)
   have hsp2:(patch (patch cur (o+(k+1)) ((l.map (Value.int .i64)).drop k)) (o+k) [Value.int .i64 x]).size=cur.size:=by rw [size_patch (by rw [hsp];simp;omega),hsp]
   rw [← hlen]
   refine tN hokb q1 (by omega) m0 (by omega) (by rw [hsp2];exact hsz0) (fun i y hy=>?_) (.inr ⟨hnok,hwr⟩) ?_ [0,1] hU
   ·rw [hres] at hy
    rcases E8 hk hy with ⟨hi,h⟩ | ⟨rfl,rfl⟩ | ⟨d,rfl,h⟩
    ·rw [patch_out (by rw [hsp];simp;omega) (.inl (by omega)),patch_out (by omega) (.inl (by omega))]
     exact hel i y h
    ·have:=patch_in (cur:=patch cur (o+(i+1)) ((l.map (Value.int .i64)).drop i)) (o:=o+i) (vs:=[Value.int .i64 y]) (by rw [hsp];simp;omega) (i:=0) (by simp)
     exact this
    ·have hd:d<(l.drop k).length:=(List.getElem?_eq_some_iff.1 h).1
     rw [patch_out (by rw [hsp];simp;omega) (.inr (by simp;omega)),show o+(k+1+d)=o+(k+1)+d by omega,patch_in (by omega) (by simpa using hd),← List.map_drop,List.getElem?_map,h]
     rfl
   ·refine ⟨q4.trans p4,q5.trans p5,q6.trans p6,by rw [q2,p2];exact Nat.le_refl _,fun b' hb' hn=>?_,fun b' c T' fz hb'=>?_⟩
    ·have hbb:b'≠b:=fun e=>hn 0 (e ▸ hwr 0)
     rw [q3 b' hbb,p3 b' hbb];rfl
    ·by_cases hbb:b'=b
     ·subst hbb
      rw [hheap] at hb'
      cases hb'
      exact ⟨_,q1,hsp2,fun o' ho'=>absurd (hwr o') ho'⟩
     ·exact ⟨c,by rw [q3 b' hbb,p3 b' hbb];exact hb',rfl,fun _ _=>rfl⟩
  ·
   obtain rfl:k=l.length:=by omega
   have hfr:∀ j,w.frozen? ⟨b,j,none⟩=false:=fun j=>by simp [World.frozen?,hheap]
   have hc:=Any2.slices_Insert_int_end_room Tryz.insI b o l.length c0 vb vo 1 c1 [Value.int .i64 x] w (by decide) hroom (by rw [hml] at m0;omega) rfl (fun j hj=>by rw [cell_of hheap];simp;omega) (fun j _=>hfr _) hvs h1v
   refine hc.mono ?_
   rintro e w' ⟨rfl,rfl⟩
   obtain ⟨q1,q2,q3,q4,q5,q6⟩:=eH [Value.int .i64 x] (o+l.length) w cur hheap (by simp;omega)
   have hsp2:(patch cur (o+l.length) [Value.int .i64 x]).size=cur.size:=size_patch (by simp;omega)
   rw [← hlen]
   refine tN hokb q1 (by omega) m0 (by omega) (by rw [hsp2];exact hsz0) (fun i y hy=>?_) (.inr ⟨hnok,hwr⟩) ?_ [0,1] hU
   ·rw [hres] at hy
    rcases E8 hk hy with ⟨hi,h⟩ | ⟨rfl,rfl⟩ | ⟨d,rfl,h⟩
    ·rw [patch_out (by simp;omega) (.inl (by omega))]
     exact hel i y h
    ·have:=patch_in (cur:=cur) (o:=o+l.length) (vs:=[Value.int .i64 y]) (by simp;omega) (i:=0) (by simp)
     rw [Nat.add_zero] at this
     rw [this];rfl
    ·simp at h
   ·refine ⟨q4,q5,q6,by rw [q2];exact Nat.le_refl _,fun b' hb' hn=>?_,fun b' c T' fz hb'=>?_⟩
    ·have hbb:b'≠b:=fun e=>hn 0 (e ▸ hwr 0)
     rw [q3 b' hbb]
    ·by_cases hbb:b'=b
     ·subst hbb
      rw [hheap] at hb'
      cases hb'
      exact ⟨_,q1,hsp2,fun o' ho'=>absurd (hwr o') ho'⟩
     ·exact ⟨c,by rw [q3 b' hbb];exact hb',rfl,fun _ _=>rfl⟩
 ·
  have e0:c0=l.length:=by omega
  subst e0
  have hg1:=grownCap_ge w (l.length+1) l.length 3
  have hg2:grownCap w (l.length+1) l.length 3≤maxLen:=grownCap_le_maxLen _ _ _ _ (by rw [hml];omega)
  generalize hg:grownCap w (l.length+1) l.length 3=g at hg1 hg2
  have frameA:∀ (A:Obj),Abs.Frame (kS β [((0,0),Res.arr 1 (l.map enI)),((1,0),.arr 1 [enI x])]) w (w.alloc A):=fun A=>(Abs.Frame.refl _ w).alloc A
  rcases Nat.lt_or_ge k l.length with hkl | hkl
  ·obtain ⟨b,o,cur,T,rfl,hblk,hheap,hsz0,hel⟩:=hc0 (by omega)
   have hcs:∀ j v,(l.map (Value.int .i64))[j]?=some v→w.cell? ⟨b,o+j,none⟩=some v:=fun j v hj=>by
    simp only [List.getElem?_map,Option.map_eq_some_iff] at hj
    obtain ⟨y,hy,rfl⟩:=hj
    rw [cell_of hheap];exact hel j y hy
   have hc:=Any2.slices_Insert_int_grow Tryz.insI b o l.length l.length k vb vo 1 c1 (l.map (Value.int .i64)) [Value.int .i64 x] w hkl (by decide) (Nat.le_refl _) (by omega) (by omega) (by simp) rfl hcs hvs (AO l) h1v
   refine hc.mono ?_
   rintro e w' ⟨rfl,rfl⟩
   rw [show Tryz.insI_ren.t 3=3 from rfl,hg]
   generalize hC:(((l.map (Value.int .i64)).take k).toArray++Builtin.zeroCells (Value.int .i64 0).cells (l.length+1-k)++Builtin.zeroCells (Value.int .i64 0).cells (g-(l.length+1)))=C
   have hCs:C.size=g:=by
    rw [← hC]
    simp only [Array.size_append,size_zeroCells,List.size_toArray,List.length_take,List.length_map]
    simp [Value.cells]
    omega
   have hCe:∀ i y,i<k→l[i]?=some y→C[i]?=some (.int .i64 y):=fun i y hi hy=>by
    rw [← hC,Array.append_assoc,Array.getElem?_append_left (by simp;omega)]
    simp [List.getElem?_take_of_lt hi,hy]
   have hnew:(w.alloc (.cells C 3)).drew.heap[w.heap.size]?=some (.cells C 3 (0,0)):=Go.heap_alloc_new w _
   obtain ⟨p1,p2,p3,p4,p5,p6⟩:=eH [Value.int .i64 x] k _ C hnew (by simp;omega)
   have hsp:(patch C k [Value.int .i64 x]).size=C.size:=size_patch (by simp;omega)
   have hlen1:((l.map (Value.int .i64)).drop k).length=l.length-k:=by simp
   obtain ⟨q1,q2,q3,q4,q5,q6⟩:=eH ((l.map (Value.int .i64)).drop k) (k+1) (((w.alloc (.cells C 3)).drew.setCells w.heap.size k [Value.int .i64 x]).drew) _ p1 (by omega)
   have hsp2:(patch (patch C k [Value.int .i64 x]) (k+1) ((l.map (Value.int .i64)).drop k)).size=C.size:=by rw [size_patch (by omega),hsp]
   rw [← hlen]
   refine tN hokb q1 (by omega) hg2 (by omega) (by rw [hsp2,hCs];omega) (fun i y hy=>?_) (.inl (Nat.le_refl _)) ?_ [0,1] hU
   ·rw [Nat.zero_add]
    rw [hres] at hy
    rcases E8 hk hy with ⟨hi,h⟩ | ⟨rfl,rfl⟩ | ⟨d,rfl,h⟩
    ·rw [patch_out (by omega) (.inl (by omega)),patch_out (by simp;omega) (.inl (by omega))]
     exact hCe i y hi h
    ·rw [patch_out (by omega) (.inl (by omega))]
     have:=patch_in (cur:=C) (o:=i) (vs:=[Value.int .i64 y]) (by simp;omega) (i:=0) (by simp)
     exact this
    ·have hd:d<(l.drop k).length:=(List.getElem?_eq_some_iff.1 h).1
     rw [patch_in (by omega) (by simpa using hd),← List.map_drop,List.getElem?_map,h]
     rfl
   ·have f0:=frameA (.cells C 3)
    refine ⟨q4.trans (p4.trans f0.os),q5.trans (p5.trans f0.tape),q6.trans (p6.trans f0.output),?_,fun b' hb' hn=>?_,fun b' c T' fz hb'=>?_⟩
    ·rw [q2]
     show _≤((w.alloc (.cells C 3)).drew.setCells w.heap.size k [Value.int .i64 x]).heap.size
     rw [p2];exact f0.size
    ·have hbb:b'≠w.heap.size:=by omega
     rw [q3 b' hbb]
     show ((w.alloc (.cells C 3)).drew.setCells w.heap.size k [Value.int .i64 x]).heap[b']?=_
     rw [p3 b' hbb];exact f0.blk b' hb' hn
    ·have hbb:b'≠w.heap.size:=by have:=(Array.getElem?_eq_some_iff.1 hb').1;omega
     obtain ⟨c',g1,g2,g3⟩:=f0.cel b' c T' fz hb'
     refine ⟨c',?_,g2,g3⟩
     rw [q3 b' hbb]
     show ((w.alloc (.cells C 3)).drew.setCells w.heap.size k [Value.int .i64 x]).heap[b']?=_
     rw [p3 b' hbb];exact g1
  ·obtain rfl:k=l.length:=by omega
   have hbase:(a0=none→l.length=0)∧∀ a,a0=some a→∀ j v,(l.map (Value.int .i64))[j]?=some v→w.cell? (a.add j)=some v:=by
    rcases Nat.eq_zero_or_pos l.length with hz | hz
    ·have:l=[]:=List.length_eq_zero_iff.1 hz
     subst this
     exact ⟨fun _=>rfl,fun a _ j v hj=>by simp at hj⟩
    ·obtain ⟨b,o,cur,T,rfl,hblk,hheap,hsz0,hel⟩:=hc0 hz
     refine ⟨fun h=>(by cases h),fun a ha j v hj=>?_⟩
     cases ha
     simp only [List.getElem?_map,Option.map_eq_some_iff] at hj
     obtain ⟨y,hy,rfl⟩:=hj
     rw [Addr.add_lit,cell_of hheap];exact hel j y hy
   have hc:=Any2.slices_Insert_int_end_grow Tryz.insI a0 l.length l.length vb vo 1 c1 (l.map (Value.int .i64)) [Value.int .i64 x] w (by decide) (Nat.le_refl _) (by omega) (by omega) (by simp) rfl hbase.1 hbase.2 hvs h1v
   refine hc.mono ?_
   rintro e w' ⟨rfl,rfl⟩
   rw [show Tryz.insI_ren.t 3=3 from rfl,hg]
   generalize hC:((l.map (Value.int .i64)++[Value.int .i64 x]).toArray++Builtin.zeroCells (Value.int .i64 0).cells (g-(l.length+1)))=C
   have hCs:C.size=g:=by
    rw [← hC]
    simp only [Array.size_append,size_zeroCells,List.size_toArray,List.length_append,List.length_map]
    simp [Value.cells]
    omega
   have hnew:(w.drew.alloc (.cells C 3)).heap[w.heap.size]?=some (.cells C 3 (0,0)):=Go.heap_alloc_new w _
   rw [← hlen]
   refine tN hokb hnew (by omega) hg2 (by omega) (by omega) (fun i y hy=>?_) (.inl (Nat.le_refl _)) ?_ [0,1] hU
   ·rw [Nat.zero_add]
    have hr:res=l++[x]:=by rw [hres];simp
    rw [hr] at hy
    have hi:i<l.length+1:=by have:=(List.getElem?_eq_some_iff.1 hy).1;simpa using this
    rw [← hC,Array.getElem?_append_left (by simp;omega)]
    rw [show l.map (Value.int .i64)++[Value.int .i64 x]=(l++[x]).map (Value.int .i64) by simp]
    simp only [List.getElem?_toArray,List.getElem?_map,hy]
    rfl
   ·have f0:=frameA (.cells C 3)
    exact ⟨f0.os,f0.tape,f0.output,f0.size,f0.blk,f0.cel⟩
theorem Tryz.insert_nil (x:Int) :
  oW Tryz.prog 56 [1] [.aj,.d (.int .i64 0),.sl 1 1 0 1] [((1,0),.arr 1 [enI x])] [2] [.sl 2 1 0 1] [((2,0),.arr 1 [enI x])]:=by
 refine ⟨⟨_,Tryz.func56,by kernel_rfl,rfl⟩,fun k r h=>?_,fun β ok w vs hokb hsz hrd hpre hsep hinj=>?_⟩
 ·obtain ⟨rfl,rfl⟩:k=(2,0)∧r=Res.arr 1 [enI x]:=by simpa using h
  rfl
 obtain ⟨v0,v1,v2,rfl⟩:∃ v0 v1 v2,vs=#[v0,v1,v2]:=by
  have h3:vs.size=3:=hsz
  exact ⟨vs[0],vs[1],vs[2],by apply Array.ext (by simpa using h3);intro i h1 h2;match i,h2 with | 0,_=>rfl | 1,_=>rfl | 2,_=>rfl⟩
 have h0:=hrd 0 v0 .aj rfl rfl
 have h1:=hrd 1 v1 (.d (.int .i64 0)) rfl rfl
 have h2:=hrd 2 v2 (.sl 1 1 0 [x].length) rfl rfl
 obtain ⟨a1,c1,rfl,n1,m1,hc1⟩:=zf (l:=[x]) h2 (hpre (1,0) _ (by simp)).2
 obtain ⟨vb,vo,vcur,vT,rfl,vblk,vheap,vsz,vel⟩:=hc1 (by simp at n1;omega)
 have e0:v0 = .slice none 0 0:=by cases h0;rfl
 subst e0
 have e1:v1 = .int .i64 0:=by cases h1 with | d _ _ h=>cases h;rfl
 subst e1
 have hml:maxLen=9223372036854775807:=rfl
 have hvs:∀ j v,[Value.int .i64 x][j]?=some v→w.cell? ⟨vb,vo+j,none⟩=some v:=fun j v hj=>by
  cases j with
  | zero=>simp at hj;subst hj;rw [cell_of vheap];exact vel 0 x rfl
  | succ j=>simp at hj
 have h1v:∀ v∈[Value.int .i64 x],v.oneCell'=true:=fun v hv=>by simp at hv;subst hv;rfl
 have hg1:=grownCap_ge w 1 0 3
 have hg2:grownCap w 1 0 3≤maxLen:=grownCap_le_maxLen _ _ _ _ (by rw [hml];omega)
 have hc:=Any2.slices_Insert_int_end_grow Tryz.insI none 0 0 vb vo 1 c1 [] [Value.int .i64 x] w (by decide) (Nat.le_refl _) (by omega) (by omega) rfl rfl (fun _=>rfl) (fun a ha=>by cases ha) hvs h1v
 refine hc.mono ?_
 rintro e w' ⟨rfl,rfl⟩
 simp only [Nat.zero_add,List.nil_append]
 rw [show Tryz.insI_ren.t 3=3 from rfl]
 generalize grownCap w 1 0 3=g at hg1 hg2 ⊢
 generalize hC:([Value.int .i64 x].toArray++Builtin.zeroCells (Value.int .i64 0).cells (g-1))=C
 have hCs:C.size=g:=by
  rw [← hC]
  simp only [Array.size_append,size_zeroCells,List.size_toArray]
  simp [Value.cells]
  omega
 have hnew:(w.drew.alloc (.cells C 3)).heap[w.heap.size]?=some (.cells C 3 (0,0)):=Go.heap_alloc_new w _
 have f0:Abs.Frame (kS β [((1,0),.arr 1 [enI x])]) w (w.alloc (.cells C 3)):=(Abs.Frame.refl _ w).alloc _
 refine tN (res:=[x]) hokb hnew hg1 hg2 (by simp) (by omega) (fun i y hy=>?_) (.inl (Nat.le_refl _)) ⟨f0.os,f0.tape,f0.output,f0.size,f0.blk,f0.cel⟩ [1] (by decide)
 cases i with
 | zero=>simp at hy;subst hy;rw [← hC,Array.getElem?_append_left (by simp)];rfl
 | succ i=>simp at hy
end Go.Proofs.YtdbkblcekmogkaaGreatDoor
