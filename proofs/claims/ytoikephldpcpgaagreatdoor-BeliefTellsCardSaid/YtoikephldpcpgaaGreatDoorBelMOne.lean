/- Plain laws of fractions and of beliefs. -/
import Derived.Test.YtoikephldpcpgaaGreatDoorOwnMOne
set_option linter.unusedVariables false
set_option linter.unusedSimpArgs false
set_option linter.all false
namespace Go.Own
abbrev Fr:=Int×Int
def mst:Nat:=1073741824
def mkF (n d:Int):Fr×Int:=
 if d=0 then ((0,0),13) else
 if n.natAbs / n.natAbs.gcd d.natAbs>mst∨d.natAbs / n.natAbs.gcd d.natAbs>mst then ((0,0),12) else
 ((if n<0↔d<0 then ((n.natAbs / n.natAbs.gcd d.natAbs:Nat):Int) else -((n.natAbs / n.natAbs.gcd d.natAbs:Nat):Int),((d.natAbs / n.natAbs.gcd d.natAbs:Nat):Int)),0)
def okF (f:Fr):Bool:=decide (1≤f.2)&&decide (f.2≤mst)&&decide (-mst≤f.1)&&decide (f.1≤mst)&&decide (f.1.natAbs.gcd f.2.natAbs=1)
theorem dA {f:Fr}:okF f=true↔1≤f.2∧f.2≤mst∧-mst≤f.1∧f.1≤mst∧f.1.natAbs.gcd f.2.natAbs=1:=by
 unfold okF;simp only [Bool.and_eq_true,decide_eq_true_eq,and_assoc]
theorem Un {n d:Int} {f:Fr} (h:mkF n d=(f,0)):okF f=true∧f.1*d=n*f.2∧d≠0:=by
 unfold mkF at h
 split at h
 ·cases h
 ·rename_i hd
  have hg:0<n.natAbs.gcd d.natAbs:=Nat.gcd_pos_of_pos_right _ (by omega)
  split at h
  ·cases h
  ·rename_i hm
   obtain ⟨a,ha⟩:=Nat.gcd_dvd_left n.natAbs d.natAbs
   obtain ⟨b,hb⟩:=Nat.gcd_dvd_right n.natAbs d.natAbs
   have ha':n.natAbs / n.natAbs.gcd d.natAbs=a:=Nat.div_eq_of_eq_mul_right hg ha
   have hb':d.natAbs / n.natAbs.gcd d.natAbs=b:=Nat.div_eq_of_eq_mul_right hg hb
   have hc:a.gcd b=1:=by
    have:=Nat.gcd_div_gcd_div_gcd_of_pos_right (n:=n.natAbs) (m:=d.natAbs) (by omega)
    rwa [ha',hb'] at this
   rw [ha',hb'] at h hm
   have hb1:1≤b:=Nat.pos_of_ne_zero (by rintro rfl;rw [Nat.mul_zero] at hb;omega)
   generalize n.natAbs.gcd d.natAbs=g at *
   have hx:∀ x:Int,x.natAbs=a→-(mst:Int)≤x∧x≤mst∧x.natAbs.gcd ((b:Int)).natAbs=1:=fun x hx=>by
    refine ⟨by omega,by omega,?_⟩
    rw [hx];simpa using hc
   have hn:(n=g*a∧0≤n)∨(n=-(g*a)∧n<0):=by
    rcases Int.lt_or_le n 0 with h0 | h0
    ·exact .inr ⟨by have:((n.natAbs:Nat):Int)=((g*a:Nat):Int):=by rw [ha]
                    push_cast at this;omega,h0⟩
    ·exact .inl ⟨by have:((n.natAbs:Nat):Int)=((g*a:Nat):Int):=by rw [ha]
                    push_cast at this;omega,h0⟩
   have hdd:(d=g*b∧0<d)∨(d=-(g*b)∧d<0):=by
    rcases Int.lt_or_le d 0 with h0 | h0
    ·exact .inr ⟨by have:((d.natAbs:Nat):Int)=((g*b:Nat):Int):=by rw [hb]
                    push_cast at this;omega,h0⟩
    ·exact .inl ⟨by have:((d.natAbs:Nat):Int)=((g*b:Nat):Int):=by rw [hb]
                    push_cast at this;omega,by omega⟩
   have ef:=congrArg Prod.fst h
   simp only at ef
   subst ef
   refine ⟨dA.2 ⟨by show (1:Int)≤(b:Int);omega,by show (b:Int)≤_;omega,(hx _ ?_).1,(hx _ ?_).2.1,(hx _ ?_).2.2⟩,?_,hd⟩
   ·show (if _ then (a:Int) else -(a:Int)).natAbs=a;split<;>omega
   ·show (if _ then (a:Int) else -(a:Int)).natAbs=a;split<;>omega
   ·show (if _ then (a:Int) else -(a:Int)).natAbs=a;split<;>omega
   ·show (if (n<0↔d<0) then (a:Int) else -(a:Int))*d=n*(b:Int)
    rcases hn with ⟨e1,h1⟩ | ⟨e1,h1⟩<;>rcases hdd with ⟨e2,h2⟩ | ⟨e2,h2⟩
    ·rw [if_pos (by omega),e1,e2];simp only [Int.mul_assoc,Int.mul_left_comm]
    ·rw [if_neg (by omega),e1,e2];simp only [Int.mul_neg,Int.neg_mul,Int.neg_neg,Int.mul_assoc,Int.mul_left_comm]
    ·rw [if_neg (by omega),e1,e2];simp only [Int.mul_neg,Int.neg_mul,Int.neg_neg,Int.mul_assoc,Int.mul_left_comm]
    ·rw [if_pos (by omega),e1,e2];simp only [Int.mul_neg,Int.neg_mul,Int.neg_neg,Int.mul_assoc,Int.mul_left_comm]
theorem Uj (f:Fr):okF f=true↔mkF f.1 f.2=(f,0):=by
 constructor
 ·intro h
  obtain ⟨h1,h2,h3,h4,h5⟩:=dA.1 h
  unfold mkF
  rw [if_neg (by omega),h5,Nat.div_one,Nat.div_one,if_neg (by omega)]
  obtain ⟨a,b⟩:=f
  simp only at *
  congr 1
  congr 1
  ·split<;>omega
  ·omega
 ·exact fun h=>(Un h).1
def iC (a b:Fr):Fr×Int:=if okF a&&okF b then mkF (a.1*b.2+b.1*a.2) (a.2*b.2) else ((0,0),13)
def sumF:Fr→List Fr→Fr×Int
 | s,[]=>(s,0)
 | s,f::l=>if (iC s f).2≠0 then ((0,0),(iC s f).2) else sumF (iC s f).1 l
def kD (a b:Fr):Int:=if a.1*b.2<b.1*a.2 then -1 else if b.1*a.2<a.1*b.2 then 1 else 0
def MN (l:List Int):Prop:=(∀ n∈l,0≤n)∧Asc l
abbrev Wt:=List Int×Fr
def JV (b:List Wt) (i:Nat):Prop:=∀ h:i<b.length,MN b[i].1∧(∀ j,(hj:j+1=i)→cmpL b[j].1 b[i].1<0)∧okF b[i].2=true∧1≤b[i].2.1
def VB (b:List Wt):Prop:=(∀ i,JV b i)∧b≠[]∧sumF (0,1) (b.map (·.2))=((1,1),0)
noncomputable def vB (b:List Wt):Bool:=@decide (VB b) (Classical.propDecidable _)
theorem yY {b:List Wt}:vB b=true↔VB b:=@decide_eq_true_iff _ (Classical.propDecidable _)
theorem ahc {b:List Wt} (h:¬ VB b):vB b=false:=@decide_eq_false _ (Classical.propDecidable _) h
noncomputable def holdsB (b:List Wt) (base:Int):Fr×Int:=if vB b then sumF (0,1) ((b.filter fun w=>w.1.contains base).map (·.2)) else ((0,0),13)
def jl:Wt→List Wt→Wt
 | m,[]=>m
 | m,w::l=>jl (if 0<kD w.2 m.2 then w else m) l
noncomputable def ru (b:List Wt):Wt:=if vB b then (match b with | []=>([],(0,0)) | w::l=>jl w l) else ([],(0,0))
theorem VB.okF {b:List Wt} (h:VB b) {w:Wt} (hw:w∈b):okF w.2=true∧1≤w.2.1∧MN w.1:=by
 obtain ⟨i,hi,rfl⟩:=List.getElem_of_mem hw
 have:=h.1 i hi
 exact ⟨this.2.2.1,this.2.2.2,this.1⟩
end Go.Own
