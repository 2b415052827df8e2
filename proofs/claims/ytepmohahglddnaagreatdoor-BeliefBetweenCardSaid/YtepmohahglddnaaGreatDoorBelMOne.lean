/- Plain laws of fractions and of beliefs. -/
import Derived.Test.YtepmohahglddnaaGreatDoorOwnMOne
set_option linter.unusedVariables false
set_option linter.unusedSimpArgs false
set_option linter.all false
namespace Go.Own
abbrev Fr:=Int×Int
def mst:Nat:=1073741824
def mkF (n d:Int):Fr×Int:=
 if d=0 then ((0,0),13) else
 if n.natAbs / n.natAbs.gcd d.natAbs>mst∨d.natAbs / n.natAbs.gcd d.natAbs>mst then ((0,0),12) else
 ((if n<0↔d<0 then ((n.natAbs / n.natAbs.gcd d.natAbs:Nat):Int) else -((n.natAbs / n.natAbs.gcd d.natAbs:Nat):Int),((d.natAbs / n.natAbs.gcd d.natAbs:Nat):Int)),0)
def okF (f:Fr):Bool:=decide (1≤f.2)&&decide (f.2≤mst)&&decide (-mst≤f.1)&&decide (f.1≤mst)&&decide (f.1.natAbs.gcd f.2.natAbs=1)
theorem dU {f:Fr}:okF f=true↔1≤f.2∧f.2≤mst∧-mst≤f.1∧f.1≤mst∧f.1.natAbs.gcd f.2.natAbs=1:=by
 unfold okF;simp only [Bool.and_eq_true,decide_eq_true_eq,and_assoc]
theorem KZ {n d:Int} {f:Fr} (h:mkF n d=(f,0)):okF f=true∧f.1*d=n*f.2∧d≠0:=by
 unfold mkF at h
 split at h
 ·cases h
 ·rename_i hd
  have hg:0<n.natAbs.gcd d.natAbs:=Nat.gcd_pos_of_pos_right _ (by omega)
  split at h
  ·cases h
  ·rename_i hm
   obtain ⟨a,ha⟩:=Nat.gcd_dvd_left n.natAbs d.natAbs
   obtain ⟨b,hb⟩:=Nat.gcd_dvd_right n.natAbs d.natAbs
   have ha':n.natAbs / n.natAbs.gcd d.natAbs=a:=Nat.div_eq_of_eq_mul_right hg ha
   have hb':d.natAbs / n.natAbs.gcd d.natAbs=b:=Nat.div_eq_of_eq_mul_right hg hb
   have hc:a.gcd b=1:=by
    have:=Nat.gcd_div_gcd_div_gcd_of_pos_right (n:=n.natAbs) (m:=d.natAbs) (by omega)
    rwa [ha',hb'] at this
   rw [ha',hb'] at h hm
   have hb1:1≤b:=Nat.pos_of_ne_zero (by rintro rfl;rw [Nat.mul_zero] at hb;omega)
   generalize n.natAbs.gcd d.natAbs=g at *
   have hx:∀ x:Int,x.natAbs=a→-(mst:Int)≤x∧x≤mst∧x.natAbs.gcd ((b:Int)).natAbs=1:=fun x hx=>by
    refine ⟨by omega,by omega,?_⟩
    rw [hx];simpa using hc
   have hn:(n=g*a∧0≤n)∨(n=-(g*a)∧n<0):=by
    rcases Int.lt_or_le n 0 with h0 | h0
    ·exact .inr ⟨by have:((n.natAbs:Nat):Int)=((g*a:Nat):Int):=by rw [ha]
                    push_cast at this;omega,h0⟩
    ·exact .inl ⟨by have:((n.natAbs:Nat):Int)=((g*a:Nat):Int):=by rw [ha]
                    push_cast at this;omega,h0⟩
   have hdd:(d=g*b∧0<d)∨(d=-(g*b)∧d<0):=by
    rcases Int.lt_or_le d 0 with h0 | h0
    ·exact .inr ⟨by have:((d.natAbs:Nat):Int)=((g*b:Nat):Int):=by rw [hb]
                    push_cast at this;omega,h0⟩
    ·exact .inl ⟨by have:((d.natAbs:Nat):Int)=((g*b:Nat):Int):=by rw [hb]
                    push_cast at this;omega,by omega⟩
   have ef:=congrArg Prod.fst h
   simp only at ef
   subst ef
   refine ⟨dU.2 ⟨by show (1:Int)≤(b:Int);omega,by show (b:Int)≤_;omega,(hx _ ?_).1,(hx _ ?_).2.1,(hx _ ?_).2.2⟩,?_,hd⟩
   ·show (if _ then (a:Int) else -(a:Int)).natAbs=a;split<;>omega
   ·show (if _ then (a:Int) else -(a:Int)).natAbs=a;split<;>omega
   ·show (if _ then (a:Int) else -(a:Int)).natAbs=a;split<;>omega
   ·show (if (n<0↔d<0) then (a:Int) else -(a:Int))*d=n*(b:Int)
    rcases hn with ⟨e1,h1⟩ | ⟨e1,h1⟩<;>rcases hdd with ⟨e2,h2⟩ | ⟨e2,h2⟩
    ·rw [if_pos (by omega),e1,e2];simp only [Int.mul_assoc,Int.mul_left_comm]
    ·rw [if_neg (by omega),e1,e2];simp only [Int.mul_neg,Int.neg_mul,Int.neg_neg,Int.mul_assoc,Int.mul_left_comm]
    ·rw [if_neg (by omega),e1,e2];simp only [Int.mul_neg,Int.neg_mul,Int.neg_neg,Int.mul_assoc,Int.mul_left_comm]
    ·rw [if_pos (by omega),e1,e2];simp only [Int.mul_neg,Int.neg_mul,Int.neg_neg,Int.mul_assoc,Int.mul_left_comm]
theorem XY {n d:Int} (hd:d≠0) (h:(mkF n d).2≠0):mkF n d=((0,0),12):=by
 unfold mkF at h ⊢
 rw [if_neg hd] at h ⊢
 split
 ·rfl
 ·rename_i hm;rw [if_neg hm] at h;exact absurd rfl h
theorem Uk (f:Fr):okF f=true↔mkF f.1 f.2=(f,0):=by
 constructor
 ·intro h
  obtain ⟨h1,h2,h3,h4,h5⟩:=dU.1 h
  unfold mkF
  rw [if_neg (by omega),h5,Nat.div_one,Nat.div_one,if_neg (by omega)]
  obtain ⟨a,b⟩:=f
  simp only at *
  congr 1
  congr 1
  ·split<;>omega
  ·omega
 ·exact fun h=>(KZ h).1
def iE (a b:Fr):Fr×Int:=if okF a&&okF b then mkF (a.1*b.2+b.1*a.2) (a.2*b.2) else ((0,0),13)
def sumF:Fr→List Fr→Fr×Int
 | s,[]=>(s,0)
 | s,f::l=>if (iE s f).2≠0 then ((0,0),(iE s f).2) else sumF (iE s f).1 l
def kC (a b:Fr):Int:=if a.1*b.2<b.1*a.2 then -1 else if b.1*a.2<a.1*b.2 then 1 else 0
def MO (l:List Int):Prop:=(∀ n∈l,0≤n)∧Asc l
abbrev Wt:=List Int×Fr
def Xh (b:List Wt) (i:Nat):Prop:=∀ h:i<b.length,MO b[i].1∧(∀ j,(hj:j+1=i)→cmpL b[j].1 b[i].1<0)∧okF b[i].2=true∧1≤b[i].2.1
def VB (b:List Wt):Prop:=(∀ i,Xh b i)∧b≠[]∧sumF (0,1) (b.map (·.2))=((1,1),0)
noncomputable def vB (b:List Wt):Bool:=@decide (VB b) (Classical.propDecidable _)
theorem EI {b:List Wt}:vB b=true↔VB b:=@decide_eq_true_iff _ (Classical.propDecidable _)
theorem aj3 {b:List Wt} (h:¬ VB b):vB b=false:=@decide_eq_false _ (Classical.propDecidable _) h
noncomputable def holdsB (b:List Wt) (base:Int):Fr×Int:=if vB b then sumF (0,1) ((b.filter fun w=>w.1.contains base).map (·.2)) else ((0,0),13)
def iI:Wt→List Wt→Wt
 | m,[]=>m
 | m,w::l=>iI (if 0<kC w.2 m.2 then w else m) l
noncomputable def xY (b:List Wt):Wt:=if vB b then (match b with | []=>([],(0,0)) | w::l=>iI w l) else ([],(0,0))
theorem VB.okF {b:List Wt} (h:VB b) {w:Wt} (hw:w∈b):okF w.2=true∧1≤w.2.1∧MO w.1:=by
 obtain ⟨i,hi,rfl⟩:=List.getElem_of_mem hw
 have:=h.1 i hi
 exact ⟨this.2.2.1,this.2.2.2,this.1⟩
def q (f:Fr):Rat:=(f.1:Rat) / (f.2:Rat)
theorem pos2 {f:Fr} (h:okF f=true):(0:Rat)<(f.2:Rat):=Rat.intCast_pos.2 (by have:=(dU.1 h).1;omega)
theorem zA {f:Fr} (h:okF f=true):q f*(f.2:Rat)=(f.1:Rat):=Rat.div_mul_cancel (Rat.ne_of_gt (pos2 h))
theorem aex {a b:Fr} (ha:okF a=true) (hb:okF b=true):q a<q b↔a.1*b.2<b.1*a.2:=by
 have pa:=pos2 ha;have pb:=pos2 hb
 have ea:=zA ha;have eb:=zA hb
 rw [← Rat.intCast_lt_intCast,Rat.intCast_mul,Rat.intCast_mul,← ea,← eb,← Rat.mul_lt_mul_right (Rat.mul_pos pa pb)]
 have e1:q a*(a.2:Rat)*(b.2:Rat)=q a*((a.2:Rat)*(b.2:Rat)):=by grind
 have e2:q b*(b.2:Rat)*(a.2:Rat)=q b*((a.2:Rat)*(b.2:Rat)):=by grind
 rw [e1,e2]
theorem PS {a b:Fr} (ha:okF a=true) (hb:okF b=true):0<kC a b↔q b<q a:=by
 rw [aex hb ha]
 unfold kC
 constructor
 ·intro h
  split at h
  ·omega
  ·split at h
   ·assumption
   ·omega
 ·intro h
  rw [if_neg (by omega),if_pos h];decide
theorem aan {a b c:Fr} (ha:okF a=true) (hb:okF b=true) (h:iE a b=(c,0)):okF c=true∧q c=q a+q b:=by
 unfold iE at h
 rw [ha,hb] at h
 obtain ⟨h1,h2,_⟩:=KZ h
 refine ⟨h1,?_⟩
 have e:=congrArg (fun n:Int=>(n:Rat)) h2
 simp only [Rat.intCast_mul,Rat.intCast_add] at e
 have pa:=pos2 ha;have pb:=pos2 hb;have pc:=pos2 h1
 have ea:=zA ha;have eb:=zA hb;have ec:=zA h1
 have hm:(c.2:Rat)*((a.2:Rat)*(b.2:Rat))≠0:=Rat.ne_of_gt (Rat.mul_pos pc (Rat.mul_pos pa pb))
 have e2:q c*((c.2:Rat)*((a.2:Rat)*(b.2:Rat)))=(q a+q b)*((c.2:Rat)*((a.2:Rat)*(b.2:Rat))):=by
  rw [← ea,← eb,← ec] at e
  grind
 have:=congrArg (· / ((c.2:Rat)*((a.2:Rat)*(b.2:Rat)))) e2
 simpa [Rat.mul_div_cancel hm] using this
def qm:List Fr→Rat
 | []=>0
 | f::l=>q f+qm l
theorem EL:∀ {l:List Fr} {s t:Fr},okF s=true→(∀ f∈l,okF f=true)→sumF s l=(t,0)→okF t=true∧q t=q s+qm l
 | [],s,t,hs,_,h=>by
   simp only [sumF,Prod.mk.injEq,and_true] at h
   subst h
   exact ⟨hs,by simp [qm,Rat.add_zero]⟩
 | f::l,s,t,hs,hl,h=>by
   unfold sumF at h
   split at h
   ·rename_i he
    exact absurd (congrArg Prod.snd h) he
   ·rename_i he
    have he:(iE s f).2=0:=by omega
    have e:iE s f=((iE s f).1,0):=by rw [← he]
    obtain ⟨h1,h2⟩:=aan hs (hl f List.mem_cons_self) e
    obtain ⟨h3,h4⟩:=EL h1 (fun g hg=>hl g (List.mem_cons_of_mem _ hg)) h
    exact ⟨h3,by rw [h4,h2];simp only [qm];exact Rat.add_assoc _ _ _⟩
theorem Ig:∀ {l:List Fr} {s:Fr},okF s=true→(∀ f∈l,okF f=true)→(sumF s l).2≠0→sumF s l=((0,0),12)
 | [],s,_,_,h=>absurd rfl h
 | f::l,s,hs,hl,h=>by
   unfold sumF at h ⊢
   have hf:=hl f List.mem_cons_self
   by_cases he:(iE s f).2=0
   ·rw [if_neg (by omega)] at h ⊢
    have e:iE s f=((iE s f).1,0):=by rw [← he]
    exact Ig (aan hs hf e).1 (fun g hg=>hl g (List.mem_cons_of_mem _ hg)) h
   ·rw [if_pos he]
    have:iE s f=mkF (s.1*f.2+f.1*s.2) (s.2*f.2):=by unfold iE;rw [hs,hf];rfl
    have h1:=(dU.1 hs).1
    have h2:=(dU.1 hf).1
    rw [this] at he ⊢
    rw [XY (Int.mul_ne_zero (by omega) (by omega)) he]
theorem yV:∀ {l:List Fr},(∀ f∈l,0<q f)→0≤qm l∧(qm l=0↔l=[])
 | [],_=>⟨Rat.le_refl,by simp [qm]⟩
 | f::l,h=>by
   have h1:=h f List.mem_cons_self
   obtain ⟨h2,_⟩:=yV (l:=l) fun g hg=>h g (List.mem_cons_of_mem _ hg)
   have:0<qm (f::l):=by simp only [qm];grind
   exact ⟨Rat.le_of_lt this,⟨fun e=>absurd e.symm (Rat.ne_of_lt this),fun e=>by cases e⟩⟩
theorem yU (p:Wt→Bool):∀ b:List Wt,qm (b.map (·.2))=qm ((b.filter p).map (·.2))+qm ((b.filter fun w=>!p w).map (·.2))
 | []=>by simp [qm,Rat.add_zero]
 | w::b=>by
   have ih:=yU p b
   cases hp:p w
   ·rw [List.filter_cons_of_neg (by simp [hp]),List.filter_cons_of_pos (by simp [hp])]
    simp only [List.map_cons,qm,ih];grind
   ·rw [List.filter_cons_of_pos hp,List.filter_cons_of_neg (by simp [hp])]
    simp only [List.map_cons,qm,ih];grind
theorem TT:q (1,1)=1:=by unfold q;rw [Rat.div_def];exact Rat.mul_inv_cancel _ (by decide)
theorem EW:q (0,1)=0:=by simp [q,Rat.div_def]
theorem aam {f:Fr} (h:okF f=true) (h1:1≤f.1):0<q f:=by
 rw [← EW,aex (by decide) h]
 have:=(dU.1 h).1
 show 0*_<_*1
 omega
theorem TV {f:Fr} (h:okF f=true):q f=1↔f=(1,1):=by
 constructor
 ·intro e
  have h1:=zA h
  rw [e,Rat.one_mul] at h1
  have h2:f.2=f.1:=Rat.intCast_inj.1 h1
  obtain ⟨k1,k2,_,_,k5⟩:=dU.1 h
  obtain ⟨x,y⟩:=f
  simp only at h2 k1 k5
  subst h2
  rw [Nat.gcd_self] at k5
  have:y=1:=by omega
  subst this
  rfl
 ·rintro rfl;exact TT
theorem QN {f:Fr} (h:okF f=true):q f=0↔f.1=0:=by
 have h1:=zA h
 constructor
 ·intro e
  rw [e,Rat.zero_mul] at h1
  exact (Rat.intCast_inj.1 (by rw [← h1];rfl)).symm
 ·intro e
  unfold q;rw [e];simp [Rat.div_def]
theorem TU {f:Fr} (h:okF f=true) (h0:0≤q f):0≤f.1:=by
 refine Int.not_lt.1 fun hn=>?_
 have:q f<q (0,1):=by rw [aex h (by decide)];have:=(dU.1 h).1;show _*1<0*_;omega
 rw [EW] at this
 exact absurd h0 (Rat.not_le.2 this)
theorem between {b:List Wt} (hv:VB b) (base:Int) {t:Fr} (h:sumF (0,1) ((b.filter fun w=>w.1.contains base).map (·.2))=(t,0)) :
  0≤t.1∧¬ 0<kC t (1,1)∧(t=(1,1)↔(b.filter fun w=>w.1.contains base).length=b.length)∧(t.1=0↔(b.filter fun w=>w.1.contains base).length=0):=by
 let p:Wt→Bool:=fun w=>w.1.contains base
 have hok:∀ (p:Wt→Bool),∀ f∈(b.filter p).map (·.2),okF f=true∧1≤f.1:=fun p f hf=>by
  obtain ⟨w,hw,rfl⟩:=List.mem_map.1 hf
  have:=hv.okF (List.mem_filter.1 hw).1
  exact ⟨this.1,this.2.1⟩
 obtain ⟨ht,e1⟩:=EL (by decide) (fun f hf=>(hok _ f hf).1) h
 obtain ⟨_,e2⟩:=EL (by decide) (fun f hf=>by obtain ⟨w,hw,rfl⟩:=List.mem_map.1 hf;exact (hv.okF hw).1) hv.2.2
 rw [yU p b,TT,EW,Rat.zero_add] at e2
 rw [EW,Rat.zero_add] at e1
 obtain ⟨n1,z1⟩:=yV (l:=(b.filter p).map (·.2)) fun f hf=>aam (hok _ f hf).1 (hok _ f hf).2
 obtain ⟨n2,z2⟩:=yV (l:=(b.filter fun w=>!p w).map (·.2)) fun f hf=>aam (hok _ f hf).1 (hok _ f hf).2
 change q t=qm ((b.filter p).map (·.2)) at e1
 rw [← e1] at n1 z1 e2
 have hl:((b.filter fun w=>!p w).map (·.2)=[])↔(b.filter p).length=b.length:=by
  rw [List.map_eq_nil_iff,List.filter_eq_nil_iff,List.length_filter_eq_length_iff]
  simp
 refine ⟨TU ht n1,?_,?_,?_⟩
 ·rw [PS ht (by decide),TT]
  exact Rat.not_lt.2 (by grind)
 ·rw [← TV ht]
  show _↔(b.filter p).length=b.length
  rw [← hl,← z2]
  constructor<;>intro h<;>grind
 ·rw [← QN ht,z1]
  show _↔(b.filter p).length=0
  simp
theorem BH:∀ {l:List Wt} {m:Wt},okF m.2=true→(∀ w∈l,okF w.2=true)→okF (iI m l).2=true∧∀ w,w=m∨w∈l→q w.2≤q (iI m l).2
 | [],m,hm,_=>⟨hm,fun w hw=>by rcases hw with rfl | hw;· exact Rat.le_refl
                               ·cases hw⟩
 | x::l,m,hm,hl=>by
   have hx:=hl x List.mem_cons_self
   have ih:=fun m hm=>BH (l:=l) (m:=m) hm fun w hw=>hl w (List.mem_cons_of_mem _ hw)
   unfold iI
   by_cases hc:0<kC x.2 m.2
   ·rw [if_pos hc]
    obtain ⟨h1,h2⟩:=ih x hx
    refine ⟨h1,fun w hw=>?_⟩
    rcases hw with rfl | hw
    ·exact Rat.le_trans (Rat.le_of_lt ((PS hx hm).1 hc)) (h2 x (.inl rfl))
    ·exact h2 w (List.mem_cons.1 hw)
   ·rw [if_neg hc]
    obtain ⟨h1,h2⟩:=ih m hm
    refine ⟨h1,fun w hw=>?_⟩
    rcases hw with rfl | hw
    ·exact h2 _ (.inl rfl)
    ·rcases List.mem_cons.1 hw with rfl | hw
     ·exact Rat.le_trans (Rat.not_lt.1 fun h=>hc ((PS hx hm).2 h)) (h2 m (.inl rfl))
     ·exact h2 w (.inr hw)
theorem XD {b:List Wt} (hv:VB b) {w:Wt} (hw:w∈b):¬ 0<kC w.2 (xY b).2:=by
 have hv':=EI.2 hv
 unfold xY
 rw [hv']
 match b,hw with
 | m::l,hw=>
   obtain ⟨h1,h2⟩:=BH (hv.okF List.mem_cons_self).1 (fun w hw=>(hv.okF (List.mem_cons_of_mem _ hw)).1)
   show ¬ 0<kC w.2 (iI m l).2
   rw [PS (hv.okF hw).1 h1]
   exact Rat.not_lt.2 (h2 w (List.mem_cons.1 hw))
end Go.Own
