/- Plain laws of names, terms and their orders. -/
import Derived.Test.YtbhfbliodeagmaaGreatDoorOwnMOne
import Derived.Lib.Join
import Derived.Test.YtbhfbliodeagmaaGreatDoorProg
import Derived.Shelf.Lays
import Derived.Shelf.Strings.BuilderK
import Derived.Shelf.Strings.OnBuilder
import Derived.Shelf.Abstract
import Derived.Ground.NamesProg
import Derived.WalkKit
import Derived.Test.YtbhfbliodeagmaaGreatDoorAbsAAnd
import Derived.Test.YtbhfbliodeagmaaGreatDoorTextCAnd
import Derived.Test.YtbhfbliodeagmaaGreatDoorRows
import Derived.Deep.Matrix
import Derived.Deep.Strs
set_option linter.all false
namespace Go.Own
abbrev Str:=List UInt8
def rng (a b:Int) (c:UInt8):Bool:=decide (a≤(c.toNat:Int))&&decide ((c.toNat:Int)≤b)
def XK (c:UInt8):Bool:=rng 97 122 c
def yB (c:UInt8):Bool:=rng 65 90 c
def ru (c:UInt8):Bool:=rng 48 57 c
def headB (p:UInt8→Bool):Str→Bool | []=>false | c::_=>p c
def tJ (s:Str):Bool:=decide (1≤s.length)&&decide (s.length≤16)
def Bl (c:UInt8):Bool:=yB c||(XK c||ru c)
def Bo (s:Str):Bool:=tJ s&&headB yB s&&s.all Bl
theorem Il {s:Str} (h:tJ s=false∨headB yB s=false∨s.all Bl=false):Bo s=false:=by
 unfold Bo
 rcases h with h | h | h<;>(rw [h];simp)
theorem ahs {s:Str} (h1:tJ s=true) (h2:headB yB s=true) (h3:s.all Bl=true):Bo s=true:=by
 unfold Bo;rw [h1,h2,h3];rfl
def numAt (n:Int):Str→Int
 | []=>n
 | c::s=>numAt (10*n+((c.toNat:Int)-48)) s
def iU (s:Str):Bool:=decide (1≤s.length)&&decide (s.length≤4)&&!(headB (fun c=>decide ((c.toNat:Int)=48)) s&&decide (1<s.length))&&s.all ru
def lX (s:Str):Int:=if iU s then numAt 0 s else 0
theorem CS:∀ (l:Str) (n:Int) (c:UInt8),numAt n (l++[c])=10*numAt n l+((c.toNat:Int)-48)
 | [],n,c=>rfl
 | d::l,n,c=>CS l _ c
theorem xX {c:UInt8}:ru c=true↔48≤(c.toNat:Int)∧(c.toNat:Int)≤57:=by simp [ru,rng]
theorem LZ:∀ {l:Str} {n:Int},0≤n→l.all ru=true→0≤numAt n l∧numAt n l<(n+1)*10 ^ l.length
 | [],n,h,_=>by simp [numAt];omega
 | c::l,n,h,hd=>by
   simp only [List.all_cons,Bool.and_eq_true] at hd
   obtain ⟨h1,h2⟩:=xX.1 hd.1
   have:=LZ (l:=l) (n:=10*n+((c.toNat:Int)-48)) (by omega) hd.2
   refine ⟨this.1,Int.lt_of_lt_of_le this.2 ?_⟩
   rw [List.length_cons,Int.pow_succ,← Int.mul_assoc,Int.mul_comm ((n+1)*10 ^ l.length) 10,← Int.mul_assoc]
   refine Int.mul_le_mul_of_nonneg_right (by omega) (Int.le_of_lt (Int.pow_pos (by decide)))
theorem zL {l:Str} (hl:l.length≤4) (hd:l.all ru=true):0≤numAt 0 l∧numAt 0 l≤9999:=by
 have h:=LZ (Int.le_refl 0) hd
 have h5:l.length=0∨l.length=1∨l.length=2∨l.length=3∨l.length=4:=by omega
 rcases h5 with e | e | e | e | e<;>rw [e] at h<;>simp at h<;>omega
theorem kG {s:Str} (h:s.length<1∨4<s.length∨(headB (fun c=>decide ((c.toNat:Int)=48)) s=true∧1<s.length)∨s.all ru=false):iU s=false:=by
 unfold iU
 rcases h with h | h | ⟨h,h'⟩ | h
 ·rw [decide_eq_false (p:=1≤s.length) (by omega)];rfl
 ·rw [decide_eq_false (p:=s.length≤4) (by omega)];simp
 ·rw [h,decide_eq_true (p:=1<s.length) h'];simp
 ·rw [h];simp
theorem Rq {s:Str} (h1:1≤s.length) (h2:s.length≤4) (h3:¬ (headB (fun c=>decide ((c.toNat:Int)=48)) s=true∧1<s.length)) (h4:s.all ru=true):iU s=true:=by
 unfold iU
 rw [decide_eq_true h1,decide_eq_true h2,h4]
 simp only [Bool.and_true,Bool.true_and,Bool.not_eq_true',Bool.and_eq_false_iff,decide_eq_false_iff_not]
 cases hh:headB (fun c=>decide ((c.toNat:Int)=48)) s
 ·exact .inl rfl
 ·exact .inr fun h=>h3 ⟨hh,h⟩
inductive Tm where
 | mk (n:Str) (ts:List Tm)
def Tm.name:Tm→Str | .mk n _=>n
def Tm.args:Tm→List Tm | .mk _ ts=>ts
def fC:Str→Str→Int
 | [],[]=>0
 | [],_::_=>-1
 | _::_,[]=>1
 | a::l,b::m=>if a<b then -1 else if b<a then 1 else fC l m
def dO (t:Tm):Int:=if t.args.length=0 then (if iU t.name then 0 else if Bo t.name then 2 else 1) else 3
mutual
def ql:Tm→Tm→Int
 | .mk n l,.mk m k=>
   if kP (dO (.mk n l)) (dO (.mk m k))≠0 then kP (dO (.mk n l)) (dO (.mk m k)) else
   if dO (.mk n l)=0 then kP (lX n) (lX m) else
   if l.length≠k.length then kP l.length k.length else
   if fC n m≠0 then fC n m else jd l k
def jd:List Tm→List Tm→Int
 | [],[]=>0
 | [],_::_=>-1
 | _::_,[]=>1
 | a::l,b::m=>if ql a b≠0 then ql a b else jd l m
end
mutual
def okT:Tm→Prop
 | .mk _ l=>l.length≤9223372036854775807∧Xz l
def Xz:List Tm→Prop
 | []=>True
 | t::ts=>okT t∧Xz ts
end
theorem LW:∀ {l:List Tm},Xz l↔∀ x∈l,okT x
 | []=>by simp [Xz]
 | t::ts=>by rw [Xz,LW];simp
theorem kF {t:Tm}:okT t↔t.args.length≤9223372036854775807∧∀ x∈t.args,okT x:=by
 obtain ⟨n,l⟩:=t
 rw [okT,LW];exact Iff.rfl
theorem Tm.ind {p:Tm→Prop} (h:∀ t:Tm,(∀ x∈t.args,p x)→p t) (t:Tm):p t:=
 Tm.rec (motive_1:=p) (motive_2:=fun l=>∀ x∈l,p x) (fun n l hl=>h (.mk n l) hl) (fun x hx=>by cases hx)
  (fun a l ha hl x hx=>by
   rcases List.mem_cons.1 hx with rfl | hx
   ·exact ha
   ·exact hl x hx) t
theorem TV (a b:Tm):ql a b=if kP (dO a) (dO b)≠0 then kP (dO a) (dO b) else
  if dO a=0 then kP (lX a.name) (lX b.name) else
  if a.args.length≠b.args.length then kP a.args.length b.args.length else
  if fC a.name b.name≠0 then fC a.name b.name else jd a.args b.args:=by
 obtain ⟨n,l⟩:=a
 obtain ⟨m,k⟩:=b
 rw [ql];rfl
theorem Ew {l m:List Tm} {i:Nat} (h:i<l.length) (h':i<m.length):jd (l.drop i) (m.drop i)=if ql l[i] m[i]≠0 then ql l[i] m[i] else jd (l.drop (i+1)) (m.drop (i+1)):=by
 rw [List.drop_eq_getElem_cons h,List.drop_eq_getElem_cons h',jd]
theorem sW {l m:List Tm} {i:Nat} (h:i≤l.length) (h':i≤m.length) (he:i=l.length∨i=m.length):jd (l.drop i) (m.drop i)=kP l.length m.length:=by
 unfold kP
 rcases he with rfl | rfl
 ·rw [List.drop_length]
  rcases Nat.lt_or_ge l.length m.length with hlt | hge
  ·rw [List.drop_eq_getElem_cons hlt,jd,if_pos (by omega)]
  ·have:l.length=m.length:=by omega
   rw [this,List.drop_length,jd,if_neg (by omega),if_neg (by omega)]
 ·rw [List.drop_length]
  rcases Nat.lt_or_ge m.length l.length with hlt | hge
  ·rw [List.drop_eq_getElem_cons hlt,jd,if_neg (by omega),if_pos (by omega)]
  ·have:l.length=m.length:=by omega
   rw [← this,List.drop_length,jd,if_neg (by omega),if_neg (by omega)]
def parens:List Str→Str
 | []=>[]
 | x::r=>[40]++Lib.join (x::r) [44]++[41]
mutual
def aY:Tm→Str
 | .mk n l=>n++parens (qy l)
def qy:List Tm→List Str
 | []=>[]
 | t::ts=>aY t::qy ts
end
theorem uP:∀ l:List Tm,qy l=l.map aY
 | []=>rfl
 | t::ts=>by rw [qy,uP ts];rfl
theorem wz (n:Str) (l:List Tm):aY (.mk n l)=n++parens (l.map aY):=by rw [aY,uP]
mutual
def pY:Tm→Nat
 | .mk n l=>n.length+3+jr l
def jr:List Tm→Nat
 | []=>0
 | t::ts=>pY t+jr ts
end
theorem qM {sep:Str} {k:Nat} (hs:sep.length≤k):∀ (l:List Str),(Lib.joinTail sep l).length≤(l.map fun x=>x.length+k).sum
 | []=>by simp [Lib.joinTail]
 | x::r=>by
   have:=qM hs r
   simp only [Lib.joinTail,List.map_cons,List.flatten_cons,List.length_append,List.sum_cons] at this ⊢
   omega
theorem join_le {sep:Str} {k:Nat} (hs:sep.length≤k) (l:List Str):(Lib.join l sep).length≤(l.map fun x=>x.length+k).sum:=by
 cases l with
 | nil=>simp [Lib.join_nil]
 | cons x r=>
   rw [Lib.join_cons,List.length_append,List.map_cons,List.sum_cons]
   have:=qM hs r
   omega
mutual
theorem Ir:∀ t:Tm,(aY t).length+1≤pY t
 | .mk n l=>by
   have h:=Bv l
   rw [aY,pY,List.length_append]
   cases hl:qy l with
   | nil=>simp [parens];omega
   | cons x r=>
     rw [hl] at h
     have h2:=qM (sep:=[44]) (k:=1) (by simp) r
     simp only [parens,List.length_append,List.length_cons,List.length_nil,Lib.join_cons]
     simp only [List.map_cons,List.sum_cons] at h
     omega
theorem Bv:∀ l:List Tm,((qy l).map fun x=>x.length+1).sum≤jr l
 | []=>by simp [qy]
 | t::ts=>by
   have h1:=Ir t
   have h2:=Bv ts
   simp only [qy,List.map_cons,List.sum_cons,jr]
   omega
end
theorem Eo:∀ l:List Tm,jr l=(l.map pY).sum
 | []=>rfl
 | t::ts=>by rw [jr,Eo ts];rfl
theorem yR {l:List Str} {x:Str} (h:x∈l) (sep:Str):x.length≤(Lib.join l sep).length:=by
 cases l with
 | nil=>cases h
 | cons y r=>
   rw [Lib.join_cons,List.length_append]
   rcases List.mem_cons.1 h with rfl | h'
   ·omega
   ·suffices x.length≤(Lib.joinTail sep r).length by omega
    clear h
    have h:=h'
    clear h' y
    induction r with
    | nil=>cases h
    | cons z r ih=>
      simp only [Lib.joinTail,List.map_cons,List.flatten_cons,List.length_append]
      rcases List.mem_cons.1 h with rfl | h
      ·omega
      ·have:=ih h
       simp only [Lib.joinTail] at this
       omega
abbrev Sn:=Tm×List Tm
def textS (s:Sn):Str:=aY s.1++[58,32]++Lib.join (s.2.map aY) [44,32]++[10]
def bY (l:List Sn):Str:=(l.map textS).flatten
def mY (s:Sn):Nat:=pY s.1+3+2*jr s.2
theorem Wh (s:Sn):(textS s).length≤mY s:=by
 have h1:=Ir s.1
 have h2:=join_le (sep:=[44,32]) (k:=2) (by simp) (s.2.map aY)
 have h3:=Bv s.2
 have h4:∀ l:List Str,(l.map fun x=>x.length+2).sum≤2*(l.map fun x=>x.length+1).sum:=fun l=>by
  induction l with
  | nil=>simp
  | cons x r ih=>simp only [List.map_cons,List.sum_cons];omega
 have h5:=h4 (s.2.map aY)
 rw [uP] at h3
 simp only [textS,mY,List.length_append,List.length_cons,List.length_nil]
 omega
theorem jP {l:List Sn} {i:Nat} (h:i<l.length):bY (l.take (i+1))=bY (l.take i)++textS l[i]:=by
 rw [bY,List.take_succ_eq_append_getElem h,List.map_append,List.flatten_append];simp only [bY,List.map_cons,List.map_nil,List.flatten_cons,List.flatten_nil,List.append_nil]
theorem EX (l:List Sn) (i:Nat):(bY (l.take i)).length≤(bY l).length:=by
 have:bY l=bY (l.take i)++bY (l.drop i):=by rw [bY,bY,bY,← List.flatten_append,← List.map_append,List.take_append_drop]
 rw [this,List.length_append];omega
theorem Ld {l:List Sn} {i:Nat} (h:i<l.length):(bY (l.take i)).length+(textS l[i]).length≤(bY l).length:=by
 have:=EX l (i+1)
 rw [jP h,List.length_append] at this
 exact this
theorem Vo (x:Str) (r:List Str) (y sep:Str):Lib.join (x::r++[y]) sep=Lib.join (x::r) sep++sep++y:=by
 rw [List.cons_append,Lib.join_cons,Lib.join_cons]
 simp [Lib.joinTail]
def gG (sep:Str) (l:List Tm) (k:Nat):Str:=Lib.join ((l.take k).map aY) sep
theorem zM {sep:Str} {l:List Tm} {k:Nat} (h:k<l.length):gG sep l (k+1)=gG sep l k++(if k=0 then [] else sep)++aY l[k]:=by
 unfold gG
 rw [List.take_succ_eq_append_getElem h,List.map_append]
 cases k with
 | zero=>simp [Lib.join_one,Lib.join_nil]
 | succ k=>
   obtain ⟨x,r,hr⟩:∃ x r,(l.take (k+1)).map aY=x::r:=by
    cases hl:(l.take (k+1)).map aY with
    | nil=>have:=congrArg List.length hl;rw [List.length_map,List.length_take,List.length_nil] at this;omega
    | cons x r=>exact ⟨x,r,rfl⟩
   rw [hr,List.map_cons,List.map_nil,Vo]
   simp
theorem Gw (sep:Str) (l:List Tm) (k:Nat):(gG sep l k).length≤(Lib.join (l.map aY) sep).length:=by
 unfold gG
 rw [List.map_take]
 generalize l.map aY=xs
 cases xs with
 | nil=>simp
 | cons x r=>
   cases k with
   | zero=>simp [Lib.join_nil]
   | succ k=>
     rw [List.take_succ_cons,Lib.join_cons,Lib.join_cons,List.length_append,List.length_append]
     have:=Lib.joinTail_take_le sep r k
     omega
abbrev fG (l:List Tm) (k:Nat):Str:=gG [44] l k
theorem Af {l:List Tm} {k:Nat} (h:k<l.length):fG l (k+1)=fG l k++(if k=0 then [] else [44])++aY l[k]:=zM h
theorem Ih (l:List Tm) (k:Nat):(fG l k).length≤(Lib.join (l.map aY) [44]).length:=Gw [44] l k
end Go.Own
namespace Go.Proofs
open Go.RowKit Go.Shelf
def Tryz.lays156_ren:Go.Shelf.Ren:=⟨fun | 156=>68 | 165=>117 | 166=>27 | 169=>30 | 240=>66 | 241=>175 | 276=>115 | 277=>242 | n=>n,fun | 31=>121 | 9=>9 | 3=>3 | 4=>4 | 0=>0 | 20=>20 | 72=>58 | 76=>61 | 70=>55 | 37=>56 | 75=>60 | 127=>123 | 164=>168 | 5=>5 | 80=>65 | n=>n,fun | n=>n⟩
theorem Tryz.lays156:Go.Proofs.Lays.n156 Tryz.prog Tryz.lays156_ren:={
 mixed:=by kernel_rfl
 f156:=Tryz.func68.trans (congrArg some (by kernel_rfl))
 f165:=Tryz.func117.trans (congrArg some (by kernel_rfl))
 f166:=Tryz.func27.trans (congrArg some (by kernel_rfl))
 f169:=Tryz.func30.trans (congrArg some (by kernel_rfl))
 f240:=Tryz.func66.trans (congrArg some (by kernel_rfl))
 f241:=Tryz.func175.trans (congrArg some (by kernel_rfl))
 f276:=Tryz.func115.trans (congrArg some (by kernel_rfl))
 f277:=Tryz.func242.trans (congrArg some (by kernel_rfl))
 t0:=Tryz.underlying0
 a0:=Tryz.isAgg0
 z0:=Tryz.sizeOf0
 v0:=Tryz.zeroValue0
 t3:=Tryz.underlying3
 a3:=Tryz.isAgg3
 z3:=Tryz.sizeOf3
 v3:=Tryz.zeroValue3
 t4:=Tryz.underlying4
 a4:=Tryz.isAgg4
 z4:=Tryz.sizeOf4
 v4:=Tryz.zeroValue4
 t9:=Tryz.underlying9
 a9:=Tryz.isAgg9
 z9:=Tryz.sizeOf9
 v9:=Tryz.zeroValue9
 t20:=Tryz.underlying20
 a20:=Tryz.isAgg20
 z20:=Tryz.sizeOf20
 v20:=Tryz.zeroValue20
 t31:=Tryz.underlying121
 a31:=Tryz.isAgg121
 z31:=Tryz.sizeOf121
 v31:=Tryz.zeroValue121
 t37:=Tryz.underlying56
 a37:=Tryz.isAgg56
 z37:=Tryz.sizeOf56
 v37:=Tryz.zeroValue56
 t70:=Tryz.underlying55
 a70:=Tryz.isAgg55
 z70:=Tryz.sizeOf55
 v70:=Tryz.zeroValue55
 t72:=Tryz.underlying58
 a72:=Tryz.isAgg58
 z72:=Tryz.sizeOf58
 v72:=Tryz.zeroValue58
 t75:=Tryz.underlying60
 a75:=Tryz.isAgg60
 z75:=Tryz.sizeOf60
 v75:=Tryz.zeroValue60
 t76:=Tryz.underlying61
 a76:=Tryz.isAgg61
 z76:=Tryz.sizeOf61
 v76:=Tryz.zeroValue61
 t127:=Tryz.underlying123
 a127:=Tryz.isAgg123
 z127:=Tryz.sizeOf123
 v127:=Tryz.zeroValue123
 t164:=Tryz.underlying168
 a164:=Tryz.isAgg168
 z164:=Tryz.sizeOf168
 v164:=Tryz.zeroValue168 }
theorem Tryz.builderX156:Builder.Extra Tryz.prog Tryz.lays156_ren where
 sizeBuilder:=by kernel_rfl
 liesBuilder:=by kernel_rfl
 t5:=Tryz.underlying5
 a5:=Tryz.isAgg5
 z5:=Tryz.sizeOf5
 v5:=Tryz.zeroValue5
 infoByte:=by kernel_rfl
 cellsByte:=by kernel_rfl
 sizeByte:=by kernel_rfl
 neB5:=by decide
abbrev Tryz.IsB (B b:Nat) (l:List UInt8) (w:World):Prop:=Lib.IsBuilderF 58 5 B b (Lib.byteCells l) w
abbrev Tryz.Kept (b:Nat) (w w':World):Prop:=Lib.OthersKept 5 (some b) w w'
theorem Tryz.al4 (B b:Nat) (bs:List Value) (w:World) (h:Lib.IsBuilderF 58 5 B b bs w) :
  Calls Tryz.prog 66 #[.pointer (some ⟨b,0,none⟩)] w fun e w'=>e = .returned (.tuple #[])∧(Lib.BuilderAtF 58 5 B b (.pointer (some ⟨b,0,none⟩)) bs w'∧Below B w w'∧Tryz.Kept b w w'):=
 Any.Builder_copyCheck_k { Tryz.lays156 with } Tryz.builderX156.toX72 B b bs w h
theorem Tryz.aks (B b:Nat) (l s:List UInt8) (w:World) (h:Tryz.IsB B b l w) (hlen:l.length+s.length≤140737488355328) (hBw:B≤w.heap.size) :
  Calls Tryz.prog 27 #[.pointer (some ⟨b,0,none⟩),.string ⟨s.toArray⟩] w fun e w'=>e = .returned (.tuple #[.int .i64 s.length,.nilIface])∧(Tryz.IsB B b (l++s) w'∧Below B w w'∧Tryz.Kept b w w'):=by
 refine (Any.Builder_WriteString_k { Tryz.lays156 with } Tryz.builderX156 B b (Lib.byteCells l) ⟨s.toArray⟩ w h (by simpa [Lib.byteCells_length,ByteArray.size] using hlen) hBw).mono ?_
 rintro e w' ⟨rfl,h1,h2⟩
 refine ⟨by simp [ByteArray.size],.inr ?_,h2⟩
 rw [Lib.strCells_eq,← Lib.byteCells_append] at h1
 exact h1
set_option maxHeartbeats 2000000 in
set_option maxRecDepth 100000 in
theorem Tryz.aa6 (B b:Nat) (l:List UInt8) (c:UInt8) (w:World) (h:Tryz.IsB B b l w) (hlen:l.length+1≤140737488355328) (hBw:B≤w.heap.size) :
  Calls Tryz.prog 116 #[.pointer (some ⟨b,0,none⟩),.int .u8 c.toNat] w fun e w'=>e = .returned .nilIface∧(Tryz.IsB B b (l++[c]) w'∧Below B w w'∧Tryz.Kept b w w'):=by
 obtain ⟨i0,hi,hz0,hz1,hz2⟩:=info_parts Tryz.builderX156.infoByte
 have cC:=Tryz.al4 B b (Lib.byteCells l) w h
 have hlb:(Lib.byteCells l).length+1≤140737488355328:=by simpa [Lib.byteCells_length] using hlen
 have hcells:Lib.byteCells (l++[c])=Lib.byteCells l++[.int .u8 c.toNat]:=by rw [Lib.byteCells_append];rfl
 generalize hbs:Lib.byteCells l=bs at cC hlb hcells
 clear h hlen hbs
 go_enter Tryz.func116,Tryz.ntmps116
 go_wp2_with (go_at_call 66;refine cC.mono ?_)
 rintro e w1 ⟨rfl,h1,hb1,hk1⟩
 obtain ⟨hB,v,hbk,hown,hne⟩:=h1
 have c0:w1.cell? ⟨b,0,none⟩=some (.pointer (some ⟨b,0,none⟩)):=by rw [Lib.cell_of_heap hbk];rfl
 have c1:w1.cell? ⟨b,1,none⟩=some v:=by rw [Lib.cell_of_heap hbk];rfl
 go_wp2_with (at_builtin;refine wpList_append_ownF _ rfl _ _ 56 rfl B 5 i0 (.int .u8 0) 1 1 Tryz.underlying56 hi hz0 hz1 hz2 rfl (by decide) _ _ _ rfl (hown.alloc _) ⟨w1.heap.size,0,none⟩ 1 1 [.int .u8 c.toNat] rfl rfl ?c1 ?c2 ?c3 ?c4 ?c5 ?_)
 case c1=>
  intro j u hj
  match j,hj with
  | 0,hj=>simp at hj;subst hj;simp [Addr.add]
 case c2=>intro u hu;simp at hu;subst hu;rfl
 case c3=>unfold maxLen;omega
 case c4=>omega
 case c5=>have:=hb1.size;simp;omega
 intro v' w2 hown' hgrow _
 have hlt:b<w1.heap.size:=(Array.getElem?_eq_some_iff.1 hbk).1
 have hb2:w2.heap[b]?=some (.cells #[.pointer (some ⟨b,0,none⟩),v] 58 (0,0)):=by
  rw [hgrow.block b (by simp;omega) (fun e=>hne e.symm),Lib.alloc_old w1 _ b hlt]
  exact hbk
 have d0:w2.cell? ⟨b,0,none⟩=some (.pointer (some ⟨b,0,none⟩)):=by rw [Lib.cell_of_heap hb2];rfl
 have d1:w2.cell? ⟨b,1,none⟩=some v:=by rw [Lib.cell_of_heap hb2];rfl
 have f1:w2.frozen? ⟨b,1,none⟩=false:=Lib.frozen_of_heap hb2 1
 obtain ⟨g,cap,rfl⟩:∃ g cap,v' = .slice (some ⟨g,0,none⟩) (bs.length+1) cap:=by
  rcases hown'.2 with ⟨_,h0⟩ | ⟨g,cap,cur,fz,hv,_⟩
  ·omega
  ·exact ⟨g,cap,hv⟩
 go_wp2
 go_ret
 refine ⟨rfl,.inr ?_,?_,((hk1.alloc _).grown hgrow (Lib.ownsRowF_kind (hown.alloc _))).setCell ⟨b,1,none⟩ rfl _⟩
 ·rw [hcells]
  exact Lib.BuilderAtF.put (T:=58) (e:=5) hB hb2 (bs':=bs++[.int .u8 c.toNat]) (by simpa using hown') (by decide)
 ·exact ((hb1.alloc (by have:=hb1.size;omega) _).grown hgrow (by have:=hb1.size;simp;omega) (fun k hk=>(hown.lt k hk).1)).setCell (p:=⟨b,1,none⟩) hB _
theorem Tryz.adr (B b:Nat) (l:List UInt8) (w:World) (h:Tryz.IsB B b l w) (hBw:B≤w.heap.size) :
  Calls Tryz.prog 30 #[.pointer (some ⟨b,0,none⟩)] w fun e w'=>e = .returned (.string ⟨l.toArray⟩)∧Below B w w':=by
 refine (Any.Builder_String_any_k { Tryz.lays156 with } Tryz.builderX156 B b l w h hBw).mono ?_
 rintro e w' ⟨rfl,h1⟩
 exact ⟨rfl,h1.2.1⟩
theorem Tryz.akI (bk o c:Nat) (xs:List (List UInt8)) (sep:List UInt8) (w:World) (hc:∀ (j:Nat) x,xs[j]?=some x→w.cell? ⟨bk,o+j,none⟩=some (.string ⟨x.toArray⟩))
  (hbk:bk<w.heap.size) (hN:xs.length≤140737488355328) (hcap:xs.length≤c) (hlen:(Lib.join xs sep).length≤140737488355328) :
  Calls Tryz.prog 68 #[.slice (some ⟨bk,o,none⟩) xs.length c,.string ⟨sep.toArray⟩] w fun e w'=>e = .returned (.string ⟨(Lib.join xs sep).toArray⟩)∧Below w.heap.size w w':=by
 have e1:(xs.map fun x:List UInt8=>(⟨x.toArray⟩:ByteArray)).map (fun s=>s.data.toList)=xs:=by
  rw [List.map_map];exact List.map_id'' (fun _=>rfl) xs
 have h:=Any.strings_Join Tryz.lays156 Tryz.builderX156 bk o c (xs.map fun x=>⟨x.toArray⟩) ⟨sep.toArray⟩ w (fun j x hx=>by
  rw [List.getElem?_map,Option.map_eq_some_iff] at hx
  obtain ⟨y,hy,rfl⟩:=hx
  exact hc j y hy) hbk (by simpa using hN) (by simpa using hcap) (by rw [e1];exact hlen)
 rw [e1,List.length_map] at h
 exact h
theorem Tryz.aib (sep:List UInt8) (w:World):Calls Tryz.prog 68 #[.slice none 0 0,.string ⟨sep.toArray⟩] w fun e w'=>e = .returned (.string ⟨#[]⟩)∧Below w.heap.size w w':=
 (Any.strings_Join_none Tryz.lays156 Tryz.builderX156 none 0 ⟨sep.toArray⟩ w).mono fun e w' ⟨he,hw⟩=>⟨he,hw ▸ Below.refl _ _⟩
end Go.Proofs
namespace Go.Proofs.YtbhfbliodeagmaaGreatDoor
open Go Go.Abs Go.Own
mutual
def enT:Tm→D
 | .mk n l => .agg [.str n,.list (VF l)]
def VF:List Tm→List D
 | []=>[]
 | t::ts=>enT t::VF ts
end
theorem qY:∀ l:List Tm,VF l=l.map enT
 | []=>rfl
 | t::ts=>by rw [VF,qY ts];rfl
def tD (n:Str) (l:List Tm):D := .agg [.str n,.list (l.map enT)]
theorem ZW (t:Tm):enT t=tD t.name t.args:=by obtain ⟨n,l⟩:=t;rw [enT,qY];rfl
theorem pR {a b:List D} (h:D.list a=D.list b):a=b:=by cases h;rfl
theorem rdl {ok:Nat→Prop} {w:World} {v:Value} {l:List Tm} (h:RdD ok w v (.list (l.map enT))) :
  ∃ a cap,v = .slice a l.length cap∧(l=[]∨∃ b o,a=some ⟨b,o,none⟩∧ok b∧l.length≤cap∧cap≤maxLen ∧
    ∀ i (hi:i<l.length),∃ u0 u1,w.cell? ⟨b,o+i*2,none⟩=some u0∧w.cell? ⟨b,o+(i*2+1),none⟩=some u1∧RdD ok w (.agg #[u0,u1]) (enT l[i])):=by
 generalize hd:D.list (l.map enT)=d at h
 cases h with
 | lF a=>
   have:=pR hd
   obtain rfl:l=[]:=by simpa using this
   exact ⟨a,0,rfl,.inl rfl⟩
 | lst a cap sz xs us hb hs hl hm hsz hlen hcell hrd=>
   obtain rfl:=pR hd
   obtain ⟨bk,o,sp⟩:=a
   simp only at hs
   subst hs
   refine ⟨_,_,by rw [List.length_map],.inr ⟨bk,o,rfl,hb,by simpa using hl,hm,fun i hi=>?_⟩⟩
   have hx:(l.map enT)[i]?=some (enT l[i]):=by rw [List.getElem?_map,List.getElem?_eq_getElem hi];rfl
   generalize l[i]=t at hx ⊢
   obtain ⟨n,ts⟩:=t
   have hc:D.cells (enT (.mk n ts))=[.str n,.list (VF ts)]:=rfl
   have h2:sz=2:=by rw [← hlen i _ hx,hc];rfl
   subst h2
   have c0:=hcell i _ 0 (.str n) hx (by rw [hc];rfl)
   have c1:=hcell i _ 1 (.list (VF ts)) hx (by rw [hc];rfl)
   refine ⟨us i 0,us i 1,by simpa using c0.1,c1.1,?_⟩
   rw [enT]
   refine .agg _ _ rfl (fun j v c hv hc'=>?_) fun j v c hv hc'=>?_
   ·match j,hv,hc' with
    | 0,hv,hc'=>simp at hv hc';subst hv;subst hc';exact hrd i _ 0 _ hx (by rw [hc];rfl)
    | 1,hv,hc'=>simp at hv hc';subst hv;subst hc';exact hrd i _ 1 _ hx (by rw [hc];rfl)
    | j+2,hv,_=>simp at hv
   ·match j,hv,hc' with
    | 0,hv,hc'=>simp at hv hc';subst hv;subst hc';exact c0.2
    | 1,hv,hc'=>simp at hv hc';subst hv;subst hc';exact c1.2
    | j+2,hv,_=>simp at hv
 | _=>cases hd
theorem rdt {ok:Nat→Prop} {w:World} {v:Value} {n:Str} {l:List Tm} (h:RdD ok w v (enT (.mk n l))) :
  ∃ u,v = .agg #[.string ⟨n.toArray⟩,u]∧RdD ok w u (.list (l.map enT)):=by
 rw [enT,qY] at h
 generalize hd:D.agg [.str n,.list (l.map enT)]=d at h
 cases h with
 | agg vs cs hl h1 h2=>
   cases hd
   obtain ⟨vs⟩:=vs
   match vs,hl with
   | [u0,u1],_=>
     have r0:=h1 0 u0 _ rfl rfl
     have r1:=h1 1 u1 _ rfl rfl
     cases r0
     exact ⟨u1,rfl,r1⟩
 | _=>cases hd
theorem ahI {ok:Nat→Prop} {w:World} {u0 u1:Value} {t:Tm} (h:RdD ok w (.agg #[u0,u1]) (enT t)):(∃ x,u0 = .string x)∧∃ a n c,u1 = .slice a n c:=by
 obtain ⟨n,l⟩:=t
 obtain ⟨u,he,hu⟩:=rdt h
 obtain ⟨a,c,hc,_⟩:=rdl hu
 cases he
 exact ⟨⟨_,rfl⟩,_,_,_,hc⟩
end Go.Proofs.YtbhfbliodeagmaaGreatDoor
namespace Go.Proofs
open Go.RowKit Go.Shelf Go.Proofs.YtbhfbliodeagmaaGreatDoor Go.Own
theorem lI {b:Nat} {w w':World} (h:Tryz.Kept b w w') {k:Nat} {c:Array Value} {t:TypeId} {fz:Nat×Nat} (hk:w.heap[k]?=some (.cells c t fz)) (hb:k≠b) (ht:t≠5):w'.heap[k]?=some (.cells c t fz):=
 h k _ hk (fun e=>hb (Option.some.inj e)) (fun c' fz' e=>ht (by cases e;rfl))
set_option maxHeartbeats 2000000 in
set_option maxRecDepth 100000 in
theorem Tryz.writeT:∀ (N:Nat) (t:Tm),SizeOf.sizeOf t<N→∀ (B b:Nat) (s:Str) (w:World) (v:Value),Tryz.IsB B b s w→B≤w.heap.size→Abs.RdD (fun k=>k<B) w v (enT t)→s.length+(aY t).length≤140737488355328 →
  Calls Tryz.prog 67 #[.pointer (some ⟨b,0,none⟩),v] w fun e w'=>e = .returned (.tuple #[])∧(Tryz.IsB B b (s++aY t) w'∧Below B w w'∧Tryz.Kept b w w')
 | 0,_,h,_,_,_,_,_,_,_,_,_=>by omega
 | N+1,.mk n l,hN,B,b,s,w,v,hI,hB,hrd,hlen=>by
   obtain ⟨u,rfl,hu⟩:=rdt hrd
   obtain ⟨a,cap,rfl,hl⟩:=rdl hu
   have hb:b<w.heap.size:=by
    rcases hI with h | h
    ·obtain ⟨_,v,hbk,_⟩:=h;exact (Array.getElem?_eq_some_iff.1 hbk).1
    ·obtain ⟨_,v,hbk,_⟩:=h;exact (Array.getElem?_eq_some_iff.1 hbk).1
   rw [wz,List.length_append] at hlen
   go_enter Tryz.func67,Tryz.ntmps67
   go_wp2_with fail
   obtain ⟨W0,hW0⟩:∃ W0,w.alloc (.cells #[.string ⟨n.toArray⟩,.slice a l.length cap] 28)=W0:=⟨_,rfl⟩
   have hB0:Below B w W0:=by rw [← hW0];exact (Below.refl _ w).alloc hB _
   have hK0:Tryz.Kept b w W0:=by rw [← hW0];exact (Lib.OthersKept.refl _ _ w).alloc _
   have hs0:W0.heap.size=w.heap.size+1:=by rw [← hW0];simp
   have hI0:Tryz.IsB B b s W0:=by rw [← hW0];exact Lib.IsBuilderF.alloc hI _
   have x0:W0.heap[w.heap.size]?=some (.cells #[.string ⟨n.toArray⟩,.slice a l.length cap] 28 (0,0)):=by rw [← hW0];exact heap_alloc_new w _
   rw [hW0]
   clear hW0
   have p0:W0.cell? ⟨w.heap.size,0,none⟩=some (.string ⟨n.toArray⟩):=by simp [World.cell?,x0]
   have cW:=Tryz.aks B b s n W0 hI0 (by omega) (by omega)
   by_cases hl0:l=[]
   ·subst hl0
    go_wp2_with (go_at_call 27;refine cW.mono ?_;rintro e w1 ⟨rfl,hI1,hB1,hK1⟩;have x1:=lI hK1 x0 (by omega) (by decide);have p1:w1.cell? ⟨w.heap.size,1,none⟩=some (.slice a ([]:List Tm).length cap):=by simp [World.cell?,x1])
    refine bodyPost_ret (results_none rfl _ _ _) rfl ?_
    rw [wz,List.map_nil,parens,List.append_nil]
    exact ⟨rfl,hI1,hB0.trans hB1,hK0.trans hK1⟩
   ·obtain ⟨bk,o,rfl,hbk,hlc,hcm,hcells⟩:=hl.resolve_left hl0
    have hpos:0<l.length:=List.length_pos_iff.2 hl0
    have hlm:l.length≤9223372036854775807:=by simp only [maxLen] at hcm;omega
    have hne:((l.length:Int)==0)=false:=by simp;omega
    have hpar:parens (l.map aY)=[40]++Lib.join (l.map aY) [44]++[41]:=by
     cases l with
     | nil=>exact absurd rfl hl0
     | cons x r=>rfl
    rw [hpar] at hlen
    simp only [List.length_append,List.length_cons,List.length_nil] at hlen
    have HC:=Any.hidJ hcells
    have Hl:=Any.hidJ hl
    have Hrd:=Any.hidJ hrd
    have Hu:=Any.hidJ hu
    clear hcells hl hrd hu hl0 hpar
    go_wp2_with (first
     | (go_at_call 27;refine cW.mono ?_;rintro e w1 ⟨rfl,hI1,hB1,hK1⟩;have x1:=lI hK1 x0 (by omega) (by decide);have p1:w1.cell? ⟨w.heap.size,1,none⟩=some (.slice (some ⟨bk,o,none⟩) l.length cap):=by simp [World.cell?,x1])
     | (go_at_call 116;refine (Tryz.aa6 B b (s++n) 40 w1 hI1 (by simp;omega) (by have:=hB1.size;omega)).mono ?_;rintro e w2 ⟨rfl,hI2,hB2,hK2⟩;have x2:=lI hK2 x1 (by omega) (by decide);have p2:w2.cell? ⟨w.heap.size,1,none⟩=some (.slice (some ⟨bk,o,none⟩) l.length cap):=by simp [World.cell?,x2]))
    have hB02:=Any.hidJ (hB0.trans (hB1.trans hB2))
    have hK02:=Any.hidJ (hK0.trans (hK1.trans hK2))
    have hI02:=Any.hidJ hI2
    clear hB0 hB1 hB2 hK0 hK1 hK2 hI2 hI1 hI0 cW x0 x1 x2 p0 p1 p2
    have ih:=Any.hidJ (Tryz.writeT N)
    go_loopw [19] (fun i wr=>∃ k:Nat,k≤l.length∧i = .int .i64 k∧Hid (Tryz.IsB B b (s++n++[40]++fG l k) wr)∧Hid (Below B w wr)∧Hid (Tryz.Kept b w wr)) (fun i _=>l.length-(intOf i).toNat)
    case atStart=>exact ⟨0,Nat.zero_le _,rfl,Any.hidJ (by rw [fG,gG,List.take_zero,List.map_nil,Lib.join_nil,List.append_nil];exact hI02.out),hB02,hK02⟩
    case round=>
     obtain ⟨k,hk,rfl,HI,HB,HK⟩:=hrel
     by_cases hkl:k<l.length
     ·obtain ⟨u0,u1,c0,c1,hr⟩:=HC.out k hkl
      obtain ⟨⟨x0,rfl⟩,a1,n1,m1,rfl⟩:=ahI hr
      have hbw:bk<w.heap.size:=by omega
      have d0:wr.cell? ⟨bk,o+k*2,none⟩=some (.string x0):=(HB.out.cell (p:=⟨bk,o+k*2,none⟩) hbk).trans c0
      have d1:wr.cell? ⟨bk,o+k*2+1,none⟩=some (.slice a1 n1 m1):=(HB.out.cell (p:=⟨bk,o+(k*2+1),none⟩) hbk).trans c1
      clear c0 c1
      have hrh:=Any.hidJ hr
      clear hr
      have hzr:=HB.out.size
      have hstep:=Af hkl
      have hle:=Ih l (k+1)
      have htk:SizeOf.sizeOf l[k]<N:=by
       have:=List.sizeOf_lt_of_mem (List.getElem_mem hkl)
       simp only [Tm.mk.sizeOf_spec] at hN
       omega
      obtain ⟨W1,hW1⟩:∃ W1,wr.alloc (.cells #[.string x0,.slice a1 n1 m1] 28)=W1:=⟨_,rfl⟩
      have hsz1:W1.heap.size=wr.heap.size+1:=by rw [← hW1];simp
      have y1:W1.heap[wr.heap.size]?=some (.cells #[.string x0,.slice a1 n1 m1] 28 (0,0)):=by rw [← hW1];exact heap_alloc_new wr _
      have e0:W1.cell? ⟨wr.heap.size,0,none⟩=some (.string x0):=by simp [World.cell?,y1]
      have e1:W1.cell? ⟨wr.heap.size,1,none⟩=some (.slice a1 n1 m1):=by simp [World.cell?,y1]
      have HI1:Hid (Tryz.IsB B b (s++n++[40]++fG l k) W1):=Any.hidJ (by rw [← hW1];exact Lib.IsBuilderF.alloc HI.out _)
      have HB1:Hid (Below B w W1):=Any.hidJ (by rw [← hW1];exact HB.out.alloc (by omega) _)
      have HK1:Hid (Tryz.Kept b w W1):=Any.hidJ (by rw [← hW1];exact HK.out.alloc _)
      have Y1:=Any.hidJ y1
      clear y1
      by_cases hk0:k=0
      ·rw [if_pos hk0,List.append_nil] at hstep
       have Hs:=Any.hidJ hstep
       have hkt:¬ 0<k:=by omega
       clear hstep hk0
       go_wp2_with fail
       refine (ih.out l[k] htk B b _ W1 _ HI1.out (by have:=HB1.out.size;omega) (hrh.out.mono (fun q hq=>HB1.out.block q hq) (fun _ h=>h)) (by rw [Hs.out,List.length_append] at hle;simp only [List.length_append,List.length_cons,List.length_nil];omega)).mono ?_
       rintro e w3 ⟨rfl,hI3,hB3,hK3⟩
       have hz3:=hB3.size
       have HI3:Hid (Tryz.IsB B b (s++n++[40]++fG l (k+1)) w3):=Any.hidJ (by rw [Hs.out,← List.append_assoc];exact hI3)
       have HB3:=Any.hidJ (HB1.out.trans hB3)
       have HK3:=Any.hidJ (HK1.out.trans hK3)
       clear hI3 hB3 hK3
       go_wp2_with fail
       go_roundw
       case rel=>exact ⟨k+1,by omega,by go_num,HI3,HB3,HK3⟩
       case measure=>simp [intOf];omega
      ·rw [if_neg hk0] at hstep
       have Hs:=Any.hidJ hstep
       have hkt:0<k:=by omega
       have hle2:s.length+(n.length+(1+((fG l k).length+1+(aY l[k]).length)+1))≤140737488355328:=by
        rw [Hs.out,List.length_append,List.length_append] at hle
        simp only [List.length_cons,List.length_nil] at hle
        omega
       clear hstep hk0 hle
       have HL:=Any.hidJ hkl
       go_wp2_with (go_at_call 116;refine (Tryz.aa6 B b _ 44 W1 HI1.out (by simp only [List.length_append,List.length_cons,List.length_nil];omega) (by have:=HB1.out.size;omega)).mono ?_;rintro e w2 ⟨rfl,hI2,hB2,hK2⟩;have z2:=hB2.size;have y2:=lI hK2 Y1.out (by omega) (by decide);have f0:w2.cell? ⟨wr.heap.size,0,none⟩=some (.string x0):=(by simp [World.cell?,y2]);have f1:w2.cell? ⟨wr.heap.size,1,none⟩=some (.slice a1 n1 m1):=(by simp [World.cell?,y2]);have HI2:=Any.hidJ hI2;have HB2:=Any.hidJ (HB1.out.trans hB2);have HK2:=Any.hidJ (HK1.out.trans hK2);clear hI2 hB2 hK2 y2)
       refine (ih.out l[k] htk B b _ w2 _ HI2.out (by have:=HB2.out.size;omega) (hrh.out.mono (fun q hq=>HB2.out.block q hq) (fun _ h=>h)) (by simp only [List.length_append,List.length_cons,List.length_nil];omega)).mono ?_
       rintro e w3 ⟨rfl,hI3,hB3,hK3⟩
       have hz3:=hB3.size
       have HI3:Hid (Tryz.IsB B b (s++n++[40]++fG l (k+1)) w3):=Any.hidJ (by rw [Hs.out,← List.append_assoc,← List.append_assoc];exact hI3)
       have HB3:=Any.hidJ (HB2.out.trans hB3)
       have HK3:=Any.hidJ (HK2.out.trans hK3)
       clear hI3 hB3 hK3
       go_wp2_with fail
       go_roundw
       case rel=>exact ⟨k+1,by have:=HL.out;omega,by go_num,HI3,HB3,HK3⟩
       case measure=>have:=HL.out;simp [intOf];omega
     ·have hke:k=l.length:=by omega
      have hall:fG l k=Lib.join (l.map aY) [44]:=by rw [hke,fG,gG,List.take_length]
      have HI':Hid (Tryz.IsB B b (s++n++[40]++Lib.join (l.map aY) [44]) wr):=Any.hidJ (by rw [← hall];exact HI.out)
      have hzr:=HB.out.size
      have hpar:Hid (parens (l.map aY)=[40]++Lib.join (l.map aY) [44]++[41]):=Any.hidJ (by
       cases l with
       | nil=>simp at hpos
       | cons x r=>rfl)
      clear hall HI
      subst hke
      go_wp2_with (go_at_call 116;refine (Tryz.aa6 B b _ 41 wr HI'.out (by simp only [List.length_append,List.length_cons,List.length_nil];omega) (by omega)).mono ?_;rintro e w4 ⟨rfl,hI4,hB4,hK4⟩)
      refine bodyPost_end (results_none rfl _ _ _) rfl ?_
      refine ⟨rfl,?_,HB.out.trans hB4,HK.out.trans hK4⟩
      rw [wz,hpar.out]
      have e:s++(n++([40]++Lib.join (l.map aY) [44]++[41]))=s++n++[40]++Lib.join (l.map aY) [44]++[41]:=by simp
      rw [e]
      exact hI4
theorem BD {P:Program} (a b:List UInt8) (h:a.length+b.length≤4611686018427387904) (w:World):(Op.stringOp .add ⟨a.toArray⟩ ⟨b.toArray⟩).run P w = .ok (.string ⟨(a++b).toArray⟩) w:=by
 have h1:=run_string_add_sum (P:=P) (w:=w) ⟨a.toArray⟩ ⟨b.toArray⟩ (by simp [ByteArray.size];omega)
 rw [h1]
 congr 2
theorem X9 {B b:Nat} {l:Str} {w w':World} (h:Tryz.IsB B b l w) (hk:∀ k,k<w.heap.size→w'.heap[k]?=w.heap[k]?):Tryz.IsB B b l w':=by
 have key:∀ p,Lib.BuilderAtF 58 5 B b p (Lib.byteCells l) w→Lib.BuilderAtF 58 5 B b p (Lib.byteCells l) w':=fun p ⟨hB,v,hb,⟨h1,h2⟩,hne⟩=>by
  refine ⟨hB,v,(hk b (Array.getElem?_eq_some_iff.1 hb).1).trans hb,⟨h1,?_⟩,hne⟩
  rcases h2 with h2 | ⟨g,cap,cur,fz,e1,e2,e3,r⟩
  ·exact .inl h2
  ·exact .inr ⟨g,cap,cur,fz,e1,e2,(hk g (Array.getElem?_eq_some_iff.1 e3).1).trans e3,r⟩
 rcases h with h | h
 ·exact .inl (key _ h)
 ·exact .inr (key _ h)
theorem Si (B:Nat) (w:World) (h:B≤w.heap.size):Tryz.IsB B w.heap.size [] (w.alloc (.cells #[.pointer none,.slice none 0 0] 58)):=
 .inl ⟨h,.slice none 0 0,heap_alloc_new w _,⟨rfl,.inl ⟨rfl,rfl⟩⟩,by simp [Value.ownBlock]⟩
set_option maxHeartbeats 1000000 in
set_option maxRecDepth 100000 in
theorem Tryz.V9 (t:Tm) (w:World) (v:Value) (hrd:Abs.RdD (fun k=>k<w.heap.size) w v (enT t)) (hlen:(aY t).length≤140737488355328) :
  Calls Tryz.prog 28 #[v] w fun e w'=>e = .returned (.string ⟨(aY t).toArray⟩)∧Below w.heap.size w w':=by
 obtain ⟨n,l⟩:=t
 have hrd0:=hrd
 obtain ⟨u,rfl,hu⟩:=rdt hrd
 obtain ⟨a,cap,rfl,_⟩:=rdl hu
 obtain ⟨W,hW⟩:∃ W,w.alloc (.cells #[.string ⟨n.toArray⟩,.slice a l.length cap] 28)=W:=⟨_,rfl⟩
 have hsz:W.heap.size=w.heap.size+1:=by rw [← hW];simp
 have hb0:=Si w.heap.size W (by omega)
 rw [hsz] at hb0
 have x1:W.heap[w.heap.size]?=some (.cells #[.string ⟨n.toArray⟩,.slice a l.length cap] 28 (0,0)):=by rw [← hW];exact heap_alloc_new w _
 obtain ⟨W2,hW2⟩:∃ W2,W.alloc (.cells #[.pointer none,.slice none 0 0] 58)=W2:=⟨_,rfl⟩
 have x2:W2.heap[w.heap.size]?=some (.cells #[.string ⟨n.toArray⟩,.slice a l.length cap] 28 (0,0)):=by rw [← hW2];exact (heap_alloc_old W _ (by omega:w.heap.size<W.heap.size)).trans x1
 have hB2:Below w.heap.size w W2:=by rw [← hW2,← hW];exact ((Below.refl _ w).alloc (Nat.le_refl _) _).alloc (by simp) _
 rw [hW2] at hb0
 have hs2:=hB2.size
 have cW:=Tryz.writeT (SizeOf.sizeOf (Tm.mk n l)+1) (.mk n l) (by omega) w.heap.size (w.heap.size+1) [] W2 _ hb0 hs2 (hrd0.mono (fun q hq=>hB2.block q hq) (fun _ h=>h)) (by simpa using hlen)
 have l0:W2.cell? ⟨w.heap.size,0,none⟩=some (.string ⟨n.toArray⟩):=by simp [World.cell?,x2]
 have l1:W2.cell? ⟨w.heap.size,1,none⟩=some (.slice a l.length cap):=by simp [World.cell?,x2]
 clear hrd hrd0 hu hb0 x1 x2
 rw [List.nil_append] at cW
 have HB:=Any.hidJ hB2
 have Hz:=Any.hidJ hs2
 clear hB2 hs2
 go_enter Tryz.func28,Tryz.ntmps28
 go_wp2_with (first | (go_at_call 67;refine cW.mono ?_;rintro e w1 ⟨rfl,h1,hb1,_⟩;have cS:=Tryz.adr w.heap.size (w.heap.size+1) _ w1 h1 (Nat.le_trans Hz.out hb1.size)) | (go_at_call 30;refine cS.mono ?_;rintro e w2 ⟨rfl,hb2⟩))
 go_ret
 exact ⟨rfl,(HB.out.trans hb1).trans hb2⟩
theorem Tryz.infoStrD:(Tryz.prog.info? 9).map (fun i=>(i.zero,i.size,i.bytes))=some (some (.string ⟨#[]⟩),1,16):=by kernel_rfl
def qA (l:List Tm) (k:Nat):List Value:=(l.take k).map fun t => .string ⟨(aY t).toArray⟩
theorem Lh {l:List Tm} {k:Nat} (h:k<l.length):qA l (k+1)=qA l k++[.string ⟨(aY l[k]).toArray⟩]:=by
 unfold qA
 rw [List.take_succ_eq_append_getElem h,List.map_append];rfl
set_option maxHeartbeats 2000000 in
set_option maxRecDepth 100000 in
theorem Tryz.abN (l:List Tm) (w:World) (v:Value) (hrd:Abs.RdD (fun k=>k<w.heap.size) w v (.list (l.map enT))) (hlen:(Lib.join (l.map aY) [44,32]).length≤140737488355328) (hl:l.length≤10000000) :
  Calls Tryz.prog 29 #[v] w fun e w'=>e = .returned (.string ⟨(Lib.join (l.map aY) [44,32]).toArray⟩)∧Below w.heap.size w w':=by
 obtain ⟨i0,hi,hz0,hz1,hz2⟩:=info_parts Tryz.infoStrD
 obtain ⟨a,cap,rfl,hcs⟩:=rdl hrd
 have HC:=Any.hidJ hcs
 clear hcs hrd
 go_enter Tryz.func29,Tryz.ntmps29
 go_wp2_with fail
 go_loopw [3,8] (fun v3 i wr=>∃ k:Nat,k≤l.length∧i = .int .i64 k∧Hid (wr.ownsRow w.heap.size 9 1 v3 k (qA l k))∧Hid (Below w.heap.size w wr)) (fun _ i _=>l.length-(intOf i).toNat)
 case atStart=>exact ⟨0,Nat.zero_le _,rfl,Any.hidJ ⟨rfl,.inl ⟨rfl,rfl⟩⟩,Any.hidJ (Below.refl _ _)⟩
 case round=>
  obtain ⟨k,hk,rfl,HO,HB⟩:=hrel
  have hzr:=HB.out.size
  by_cases hkl:k<l.length
  ·obtain ⟨bk,o,rfl,hbk,hlc,hcm,hcells⟩:=HC.out.resolve_left (fun e=>by rw [e] at hkl;cases hkl)
   obtain ⟨u0,u1,c0,c1,hr⟩:=hcells k hkl
   obtain ⟨⟨x0,rfl⟩,a1,n1,m1,rfl⟩:=ahI hr
   have d0:wr.cell? ⟨bk,o+k*2,none⟩=some (.string x0):=(HB.out.cell (p:=⟨bk,o+k*2,none⟩) hbk).trans c0
   have d1:wr.cell? ⟨bk,o+k*2+1,none⟩=some (.slice a1 n1 m1):=(HB.out.cell (p:=⟨bk,o+(k*2+1),none⟩) hbk).trans c1
   clear c0 c1
   have hrh:=Any.hidJ hr
   have hpt:=yR (List.mem_map.2 ⟨l[k],List.getElem_mem hkl,rfl⟩:aY l[k]∈l.map aY) [44,32]
   clear hr hcells
   obtain ⟨W1,hW1⟩:∃ W1,wr.alloc (.cells #[.string x0,.slice a1 n1 m1] 28)=W1:=⟨_,rfl⟩
   have hsz1:W1.heap.size=wr.heap.size+1:=by rw [← hW1];simp
   have y1:W1.heap[wr.heap.size]?=some (.cells #[.string x0,.slice a1 n1 m1] 28 (0,0)):=by rw [← hW1];exact heap_alloc_new wr _
   have e0:W1.cell? ⟨wr.heap.size,0,none⟩=some (.string x0):=by simp [World.cell?,y1]
   have e1:W1.cell? ⟨wr.heap.size,1,none⟩=some (.slice a1 n1 m1):=by simp [World.cell?,y1]
   have HB1:Hid (Below w.heap.size w W1):=Any.hidJ (by rw [← hW1];exact HB.out.alloc (by omega) _)
   have HO1:Hid (W1.ownsRow w.heap.size 9 1 u3 k (qA l k)):=Any.hidJ (by rw [← hW1];exact HO.out.alloc _)
   have Hs:=Any.hidJ (Lh hkl)
   clear y1
   go_wp2_with (first
    | (go_at_call 28;refine (Tryz.V9 l[k] W1 _ (hrh.out.mono (fun q hq=>HB1.out.block q hq) (fun q hq=>Nat.lt_of_lt_of_le hq HB1.out.size)) (by omega)).mono ?_;rintro e w2 ⟨rfl,hb2⟩;have HB2:=Any.hidJ (HB1.out.trans (hb2.mono HB1.out.size));have HO2:=Any.hidJ (HO1.out.kept (row:=none) ⟨hb2.os,hb2.tape,hb2.output,hb2.size,fun k hk _=>hb2.block k hk⟩ (by cases hq:Value.ownBlock u3 with
      | none=>exact .inl rfl
      | some _=>exact .inr (by simp))))
    | (at_builtin;refine wpList_append_own _ rfl _ _ 121 rfl w.heap.size 9 i0 (.string ⟨#[]⟩) 1 16 Tryz.underlying121 hi hz0 hz1 hz2 rfl (by decide) _ _ _ rfl (HO2.out.alloc _) ⟨w2.heap.size,0,none⟩ 1 1 [.string ⟨(aY l[k]).toArray⟩] rfl rfl ?c1 ?c2 ?c3 ?c4 ?c5 ?_))
   case c1=>
    intro j u hj
    match j,hj with
    | 0,hj=>simp at hj;subst hj;simp [Addr.add]
   case c2=>intro u hu;simp at hu;subst hu;rfl
   case c3=>unfold maxLen;omega
   case c4=>omega
   case c5=>have:=HB2.out.size;simp;omega
   intro v' w3 hown' hgrow _
   have HO3:Hid (w3.ownsRow w.heap.size 9 1 v' (k+1) (qA l (k+1))):=Any.hidJ (by rw [Hs.out];exact hown')
   have HB3:Hid (Below w.heap.size w w3):=Any.hidJ ((HB2.out.alloc (by have:=HB2.out.size;omega) _).grown hgrow (by have:=HB2.out.size;simp;omega) (fun k hk=>(HO2.out.lt k hk).1))
   clear hown' hgrow
   have HL:=Any.hidJ hkl
   go_wp2_with fail
   go_roundw
   case rel=>exact ⟨k+1,by have:=HL.out;omega,by go_num,HO3,HB3⟩
   case measure=>have:=HL.out;simp [intOf];omega
  ·have hke:k=l.length:=by omega
   have hall:qA l k=(l.map aY).map fun s=>Value.string ⟨s.toArray⟩:=by rw [hke,qA,List.take_length,List.map_map];rfl
   have HO':Hid (wr.ownsRow w.heap.size 9 1 u3 l.length ((l.map aY).map fun s=>Value.string ⟨s.toArray⟩)):=Any.hidJ (by rw [← hall,← hke];exact HO.out)
   have hJ:Hid (Calls Tryz.prog 68 #[u3,.string ⟨#[44,32]⟩] wr fun e w'=>e = .returned (.string ⟨(Lib.join (l.map aY) [44,32]).toArray⟩)∧Below wr.heap.size wr w'):=Any.hidJ (by
    rcases HO'.out.2 with ⟨rfl,h0⟩ | ⟨g,cp,cur,rfl,hg,hh,hn,hc,hz,ht⟩
    ·obtain rfl:l=[]:=List.length_eq_zero_iff.1 h0
     exact (Tryz.aib [44,32] wr)
    ·have hgl:g<wr.heap.size:=(Array.getElem?_eq_some_iff.1 hh).1
     have:=Tryz.akI g 0 cp (l.map aY) [44,32] wr (fun j x hx=>?_) hgl (by simp;omega) (by simpa using hn) hlen
     ·rw [List.length_map] at this;exact this
     ·rw [Nat.zero_add,Lib.cell_of_heap hh]
      have hj:j<l.length:=by have:=(List.getElem?_eq_some_iff.1 hx).1;simpa using this
      have e:(cur.toList.take (l.length*1))[j]?=some (.string ⟨x.toArray⟩):=by rw [ht,List.getElem?_map,hx];rfl
      rw [List.getElem?_take,if_pos (by omega)] at e
      simpa using e)
   clear hall HO HO'
   go_wp2_with (go_at_call 68;refine hJ.out.mono ?_;rintro e w4 ⟨rfl,hb4⟩)
   go_ret
   exact ⟨rfl,HB.out.trans (hb4.mono hzr)⟩
end Go.Proofs
namespace Go.Proofs.YtbhfbliodeagmaaGreatDoor
open Go Go.Abs Go.Own
def enS (s:Sn):D := .agg [.str s.1.name,.list (s.1.args.map enT),.list (s.2.map enT)]
def okS (s:Sn):Prop:=okT s.1∧∀ t∈s.2,okT t
theorem rdv {ok:Nat→Prop} {w:World} {v:Value} {l:List Sn} (h:RdD ok w v (.list (l.map enS))) :
  ∃ a cap,v = .slice a l.length cap∧(l=[]∨∃ b o,a=some ⟨b,o,none⟩∧ok b∧l.length≤cap∧cap≤maxLen ∧
    ∀ i (hi:i<l.length),∃ u0 u1 u2,w.cell? ⟨b,o+i*3,none⟩=some u0∧w.cell? ⟨b,o+i*3+1,none⟩=some u1∧w.cell? ⟨b,o+i*3+2,none⟩=some u2∧RdD ok w (.agg #[u0,u1]) (enT l[i].1)∧RdD ok w u2 (.list (l[i].2.map enT))):=by
 generalize hd:D.list (l.map enS)=d at h
 cases h with
 | lF a=>
   have:=pR hd
   obtain rfl:l=[]:=by simpa using this
   exact ⟨a,0,rfl,.inl rfl⟩
 | lst a cap sz xs us hb hs hl hm hsz hlen hcell hrd=>
   obtain rfl:=pR hd
   obtain ⟨bk,o,sp⟩:=a
   simp only at hs
   subst hs
   refine ⟨_,_,by rw [List.length_map],.inr ⟨bk,o,rfl,hb,by simpa using hl,hm,fun i hi=>?_⟩⟩
   have hx:(l.map enS)[i]?=some (enS l[i]):=by rw [List.getElem?_map,List.getElem?_eq_getElem hi];rfl
   generalize l[i]=s at hx ⊢
   obtain ⟨⟨n,ts⟩,ps⟩:=s
   have hc:D.cells (enS (.mk n ts,ps))=[.str n,.list (ts.map enT),.list (ps.map enT)]:=rfl
   have h3:sz=3:=by rw [← hlen i _ hx,hc];rfl
   subst h3
   have c0:=hcell i _ 0 (.str n) hx (by rw [hc];rfl)
   have c1:=hcell i _ 1 (.list (ts.map enT)) hx (by rw [hc];rfl)
   have c2:=hcell i _ 2 (.list (ps.map enT)) hx (by rw [hc];rfl)
   refine ⟨us i 0,us i 1,us i 2,by simpa using c0.1,c1.1,c2.1,?_,hrd i _ 2 _ hx (by rw [hc];rfl)⟩
   rw [enT,qY]
   refine .agg _ _ rfl (fun j v c hv hc'=>?_) fun j v c hv hc'=>?_
   ·match j,hv,hc' with
    | 0,hv,hc'=>simp at hv hc';subst hv;subst hc';exact hrd i _ 0 _ hx (by rw [hc];rfl)
    | 1,hv,hc'=>simp at hv hc';subst hv;subst hc';exact hrd i _ 1 _ hx (by rw [hc];rfl)
    | j+2,hv,_=>simp at hv
   ·match j,hv,hc' with
    | 0,hv,hc'=>simp at hv hc';subst hv;subst hc';exact c0.2
    | 1,hv,hc'=>simp at hv hc';subst hv;subst hc';exact c1.2
    | j+2,hv,_=>simp at hv
 | _=>cases hd
end Go.Proofs.YtbhfbliodeagmaaGreatDoor
namespace Go.Proofs
open Go.RowKit Go.Shelf Go.Proofs.YtbhfbliodeagmaaGreatDoor Go.Own
set_option maxHeartbeats 2000000 in
set_option maxRecDepth 100000 in
theorem Tryz.ahw (l:List Sn) (w:World) (v:Value) (hrd:Abs.RdD (fun k=>k<w.heap.size) w v (.list (l.map enS))) (hlen:(bY l).length≤1000000000) (hn:∀ s∈l,s.2.length≤10000000) :
  Calls Tryz.prog 10 #[v] w fun e w'=>e = .returned (.string ⟨(bY l).toArray⟩)∧Below w.heap.size w w':=by
 obtain ⟨a,cap,rfl,hcs⟩:=rdv hrd
 have HC:=Any.hidJ hcs
 have HN:=Any.hidJ hn
 clear hcs hrd hn
 have hb0:=Si w.heap.size w (Nat.le_refl _)
 obtain ⟨W0,hW0⟩:∃ W0,w.alloc (.cells #[.pointer none,.slice none 0 0] 58)=W0:=⟨_,rfl⟩
 have hs0:W0.heap.size=w.heap.size+1:=by rw [← hW0];simp
 have HB0:Hid (Below w.heap.size w W0):=Any.hidJ (by rw [← hW0];exact (Below.refl _ w).alloc (Nat.le_refl _) _)
 rw [hW0] at hb0
 have HI0:=Any.hidJ hb0
 clear hb0
 go_enter Tryz.func10,Tryz.ntmps10
 go_wp2_with fail
 go_loopw [8] (fun i wr=>∃ k:Nat,k≤l.length∧i = .int .i64 k∧Hid (Tryz.IsB w.heap.size w.heap.size (bY (l.take k)) wr)∧Hid (Below w.heap.size w wr)∧w.heap.size<wr.heap.size) (fun i _=>l.length-(intOf i).toNat)
 case atStart=>exact ⟨0,Nat.zero_le _,rfl,HI0,HB0,by omega⟩
 case round=>
  obtain ⟨k,hk,rfl,HI,HB,hzr⟩:=hrel
  by_cases hkl:k<l.length
  ·obtain ⟨bk,o,rfl,hbk,hlc,hcm,hcells⟩:=HC.out.resolve_left (fun e=>by rw [e] at hkl;cases hkl)
   obtain ⟨u0,u1,u2,g0,g1,g2,hr,hp⟩:=hcells k hkl
   obtain ⟨⟨x0,rfl⟩,a1,l1,c1,rfl⟩:=ahI hr
   obtain ⟨a2,cp2,rfl,_⟩:=rdl hp
   obtain ⟨l2,hn2⟩:∃ n,l[k].2.length=n:=⟨_,rfl⟩
   rw [hn2] at hp g2
   clear hn2
   have d0:wr.cell? ⟨bk,o+k*3,none⟩=some (.string x0):=(HB.out.cell (p:=⟨bk,o+k*3,none⟩) hbk).trans g0
   have d1:wr.cell? ⟨bk,o+k*3+1,none⟩=some (.slice a1 l1 c1):=(HB.out.cell (p:=⟨bk,o+k*3+1,none⟩) hbk).trans g1
   have d2:wr.cell? ⟨bk,o+k*3+2,none⟩=some (.slice a2 l2 cp2):=(HB.out.cell (p:=⟨bk,o+k*3+2,none⟩) hbk).trans g2
   have hin:=Ld hkl
   have hlm:l.length≤9223372036854775807:=by simp only [maxLen] at hcm;omega
   have hsucc:=Any.hidJ (jP hkl)
   have hpn:=HN.out l[k] (List.getElem_mem hkl)
   have HL:=Any.hidJ hkl
   clear g0 g1 g2 hcells
   have hrh:=Any.hidJ hr
   have hph:=Any.hidJ hp
   clear hr hp
   obtain ⟨W1,hW1⟩:∃ W1,wr.alloc (.cells #[.string x0,.slice a1 l1 c1,.slice a2 l2 cp2] 30)=W1:=⟨_,rfl⟩
   have hsz1:W1.heap.size=wr.heap.size+1:=by rw [← hW1];simp
   have y1:W1.heap[wr.heap.size]?=some (.cells #[.string x0,.slice a1 l1 c1,.slice a2 l2 cp2] 30 (0,0)):=by rw [← hW1];exact heap_alloc_new wr _
   have k0:W1.cell? ⟨wr.heap.size,0,none⟩=some (.string x0):=by simp [World.cell?,y1]
   have k1:W1.cell? ⟨wr.heap.size,1,none⟩=some (.slice a1 l1 c1):=by simp [World.cell?,y1]
   have k2:W1.cell? ⟨wr.heap.size,2,none⟩=some (.slice a2 l2 cp2):=by simp [World.cell?,y1]
   have HB1:Hid (Below w.heap.size w W1):=Any.hidJ (by rw [← hW1];exact HB.out.alloc (by omega) _)
   have HI1:Hid (Tryz.IsB w.heap.size w.heap.size (bY (l.take k)) W1):=Any.hidJ (by rw [← hW1];exact Lib.IsBuilderF.alloc HI.out _)
   have Y1:=Any.hidJ y1
   clear y1
   obtain ⟨t0,ht0⟩:∃ t,aY l[k].1=t:=⟨_,rfl⟩
   obtain ⟨ps,hps⟩:∃ t,Lib.join (l[k].2.map aY) [44,32]=t:=⟨_,rfl⟩
   obtain ⟨t1,ht1⟩:∃ t,t0++[58,32]=t:=⟨_,rfl⟩
   obtain ⟨t2,ht2⟩:∃ t,t1++ps=t:=⟨_,rfl⟩
   obtain ⟨t3,ht3⟩:∃ t,t2++[10]=t:=⟨_,rfl⟩
   have hS:textS l[k]=t3:=by rw [← ht3,← ht2,← ht1,← hps,← ht0,textS]
   have hin:(bY (l.take k)).length+t3.length≤(bY l).length:=by rw [← hS];exact hin
   have q3:t3.length=t2.length+1:=by rw [← ht3];simp
   have q2:t2.length=t1.length+ps.length:=by rw [← ht2];simp
   have q1:t1.length=t0.length+2:=by rw [← ht1];simp
   have ad1:∀ w,(Op.stringOp .add ⟨t0.toArray⟩ ⟨#[58,32]⟩).run Tryz.prog w = .ok (.string ⟨t1.toArray⟩) w:=fun w=>by rw [← ht1];exact BD t0 [58,32] (by simp;omega) w
   have ad2:∀ w,(Op.stringOp .add ⟨t1.toArray⟩ ⟨ps.toArray⟩).run Tryz.prog w = .ok (.string ⟨t2.toArray⟩) w:=fun w=>by rw [← ht2];exact BD _ _ (by omega) w
   have ad3:∀ w,(Op.stringOp .add ⟨t2.toArray⟩ ⟨#[10]⟩).run Tryz.prog w = .ok (.string ⟨t3.toArray⟩) w:=fun w=>by rw [← ht3];exact BD t2 [10] (by simp;omega) w
   have Ht:=Any.hidJ ht0
   have Hp:=Any.hidJ hps
   have HS:=Any.hidJ hS
   clear ht0 hps ht1 ht2 ht3 hS
   have cT:Hid (∀ W,Below w.heap.size w W→Calls Tryz.prog 28 #[.agg #[.string x0,.slice a1 l1 c1]] W fun e w'=>e = .returned (.string ⟨t0.toArray⟩)∧Below W.heap.size W w'):=Any.hidJ (fun W hB=>by
    rw [← Ht.out]
    exact Tryz.V9 l[k].1 W _ (hrh.out.mono (fun q hq=>hB.block q hq) (fun q hq=>Nat.lt_of_lt_of_le hq hB.size)) (by rw [Ht.out];omega))
   have cP:Hid (∀ W,Below w.heap.size w W→Calls Tryz.prog 29 #[.slice a2 l2 cp2] W fun e w'=>e = .returned (.string ⟨ps.toArray⟩)∧Below W.heap.size W w'):=Any.hidJ (fun W hB=>by
    rw [← Hp.out]
    exact Tryz.abN l[k].2 W _ (hph.out.mono (fun q hq=>hB.block q hq) (fun q hq=>Nat.lt_of_lt_of_le hq hB.size)) (by rw [Hp.out];omega) hpn)
   have hz1:=HB1.out.size
   clear hpn
   go_wp2_with fail
   clear hW1
   go_region_held3 (fun w'=>w'.cell? ⟨wr.heap.size,0,none⟩=some (.string x0)∧w'.cell? ⟨wr.heap.size,1,none⟩=some (.slice a1 l1 c1)∧w'.cell? ⟨wr.heap.size,2,none⟩=some (.slice a2 l2 cp2)) (go_keep)
    (first
     | (go_at_call 28;refine (cT.out _ HB1.out.drew).mono ?_;rintro e w1 ⟨rfl,hb1⟩;have z1:W1.heap.size≤w1.heap.size:=hb1.size;have m0:=fJ hb1 (show wr.heap.size<W1.heap.size by omega) k0;have m1:=fJ hb1 (show wr.heap.size<W1.heap.size by omega) k1;have m2:=fJ hb1 (show wr.heap.size<W1.heap.size by omega) k2)
     | (go_at_call 29;refine (cP.out w1 (HB1.out.drew.trans (hb1.mono (show w.heap.size≤W1.heap.size by omega)))).mono ?_;rintro e w2 ⟨rfl,hb2⟩;have z2:=hb2.size;have n0:=fJ hb2 (show wr.heap.size<w1.heap.size by omega) m0;have n1:=fJ hb2 (show wr.heap.size<w1.heap.size by omega) m1;have n2:=fJ hb2 (show wr.heap.size<w1.heap.size by omega) m2)
     | (go_at_call 27;refine (Tryz.aks w.heap.size w.heap.size (bY (l.take k)) t3 w2 (X9 HI1.out (fun q hq=>(hb2.block q (by omega)).trans (hb1.block q hq))) (by omega) (by omega)).mono ?_;rintro e w3 ⟨rfl,hI3,hB3,hK3⟩;have y3:=lI hK3 ((hb2.block wr.heap.size (by omega)).trans ((hb1.block wr.heap.size (show wr.heap.size<W1.heap.size by omega)).trans Y1.out)) (by omega) (by decide);have p0:w3.cell? ⟨wr.heap.size,0,none⟩=some (.string x0):=(by simp [World.cell?,y3]);have p1:w3.cell? ⟨wr.heap.size,1,none⟩=some (.slice a1 l1 c1):=(by simp [World.cell?,y3]);have p2:w3.cell? ⟨wr.heap.size,2,none⟩=some (.slice a2 l2 cp2):=(by simp [World.cell?,y3]);clear y3))
   have z3:=hB3.size
   have HI3:Hid (Tryz.IsB w.heap.size w.heap.size (bY (l.take (k+1))) w3):=Any.hidJ (by rw [hsucc.out.trans (congrArg (bY (l.take k)++·) HS.out)];exact hI3)
   have HB3:=Any.hidJ (((HB1.out.drew.trans (hb1.mono (show w.heap.size≤W1.heap.size by omega))).trans (hb2.mono (by omega))).trans hB3)
   clear hI3 hB3 hK3 hb1 hb2
   go_wp2_with fail
   go_roundw
   case rel=>exact ⟨k+1,by have:=HL.out;omega,by go_num,HI3,HB3,by omega⟩
   case measure=>have:=HL.out;simp [intOf];omega
  ·have hke:k=l.length:=by omega
   have hall:Hid (bY (l.take k)=bY l):=Any.hidJ (by rw [hke,List.take_length])
   have cS:=Any.hidJ (Tryz.adr w.heap.size w.heap.size _ wr HI.out (by omega))
   subst hke
   go_wp2_with (go_at_call 30;refine cS.out.mono ?_;rintro e w4 ⟨rfl,hb4⟩)
   go_ret
   exact ⟨rfl,HB.out.trans hb4⟩
end Go.Proofs
namespace Go.Proofs.YtbhfbliodeagmaaGreatDoor
open Go Go.RowKit Go.ChangeShapes Go.WideShapes
theorem abl {a:Addr} (h:a.spot=none) (n:Nat):a.add n=⟨a.block,a.off+n,none⟩:=by
 obtain ⟨b,o,s⟩:=a
 have hs:s=none:=h
 subst hs
 exact Addr.add_lit _ _ _
theorem UY {w:World} {a:Addr} {v:Value} (h:w.cell? (a.add 0)=some v):a.spot=none∧a.block<w.heap.size:=by
 have e:a.add 0=a:=by simp [Addr.add]
 rw [e] at h
 unfold World.cell? at h
 cases hh:w.heap[a.block]? with
 | none=>rw [hh] at h;cases h
 | some ob=>
   rw [hh] at h
   refine ⟨?_,(Array.getElem?_eq_some_iff.1 hh).1⟩
   cases ob with
   | cells c t f=>
     cases hs:a.spot with
     | none=>rfl
     | some _=>simp [hs] at h
   | _=>cases h
theorem Qy {W:World} {a:Addr} {len cap sz:Nat} {xs:List Abs.D} (hxl:xs.length=len) (hl:len≤cap) (hm:cap≤maxLen) (hsz:0<sz) (h0:0<cap→∃ v,W.cell? (a.add 0)=some v)
  (hx:∀ (i:Nat) x,xs[i]?=some x→(Abs.D.cells x).length=sz∧∀ (j:Nat) c,(Abs.D.cells x)[j]?=some c→∃ u,W.cell? (a.add (i*sz+j))=some u∧u.oneCell'=true∧Abs.D.one c=true∧Abs.RdD (fun b=>b<W.heap.size) W u c) :
  Abs.RdD (fun b=>b<W.heap.size) W (.slice (some a) len cap) (.list xs):=by
 subst hxl
 rcases Nat.eq_zero_or_pos cap with hz | hz
 ·subst hz
  have:xs=[]:=List.length_eq_zero_iff.1 (by omega)
  subst this
  exact .lF _
 ·obtain ⟨v,hv⟩:=h0 hz
  obtain ⟨hs,hb⟩:=UY hv
  have hu:∀ (i:Nat) x (j:Nat) c,xs[i]?=some x→(Abs.D.cells x)[j]?=some c→∃ u,W.cell? ⟨a.block,a.off+(i*sz+j),none⟩=some u∧u.oneCell'=true∧Abs.D.one c=true∧Abs.RdD (fun b=>b<W.heap.size) W u c:=fun i x j c h hc=>by
   obtain ⟨_,h2⟩:=hx i x h
   obtain ⟨u,h3,h4⟩:=h2 j c hc
   rw [abl hs] at h3
   exact ⟨u,h3,h4⟩
  refine .lst a cap sz xs (fun i j=>(W.cell? ⟨a.block,a.off+(i*sz+j),none⟩).getD undef) hb hs hl hm hsz (fun i x h=>(hx i x h).1) (fun i x j c h hc=>?_) (fun i x j c h hc=>?_)
  ·obtain ⟨u,h1,h2,h3,_⟩:=hu i x j c h hc
   rw [h1];exact ⟨rfl,h2,h3⟩
  ·obtain ⟨u,h1,_,_,h4⟩:=hu i x j c h hc
   rw [h1];exact h4
section
open Go.Abs Go.Own
variable {H:Type} {enc:TypeId×Value→H} {W:World} {held:Bool}
theorem ahy {ok:Nat→Prop} {W:World} {s:ByteArray} (h:s.size≤maxLen):RdD ok W (.string s) (.str s.data.toList):=by
 have:(Value.string s) = .string ⟨s.data.toList.toArray⟩:=by simp
 rw [this]
 exact .str _ (by simpa using h)
theorem jL:∀ ds:List (DataW H),Rows.uptoBulkAll ds=(ds.map Rows.uptoBulk).sum
 | []=>rfl
 | d::r=>by rw [Rows.uptoBulkAll,jL r];rfl
theorem Oi {α:Type} {f g:α→Nat}:∀ {l:List α},(∀ x∈l,f x≤g x)→(l.map f).sum≤(l.map g).sum
 | [],_=>by simp
 | x::r,h=>by
   have h1:=h x (by simp)
   have h2:=Oi fun y hy=>h y (List.mem_cons_of_mem _ hy)
   simp only [List.map_cons,List.sum_cons]
   omega
def adl (W:World) (t:Tm) (v0 v1:Value):Prop:=v0.oneCell'=true∧v1.oneCell'=true∧RdD (fun b=>b<W.heap.size) W v0 (.str t.name)∧RdD (fun b=>b<W.heap.size) W v1 (.list (t.args.map enT))
set_option maxRecDepth 100000 in
theorem WS {n:Nat} {cs:List Value} {x:DataW H×List MemPlace} (h:DataW.trod enc Tryz.prog W 0 (fun _=>true) held n 26 cs=some x)
  (IH:∀ (n:Nat) (cs:List Value) (y:DataW H×List MemPlace),SizeOf.sizeOf y.1<SizeOf.sizeOf x.1→DataW.trod enc Tryz.prog W 0 (fun _=>true) held n 28 cs=some y→∃ (t:Tm) (v0 v1:Value),cs=[v0,v1]∧adl W t v0 v1∧okT t∧pY t≤Rows.uptoBulk y.1) :
  ∃ (v:Value) (l:List Tm),cs=[v]∧v.oneCell'=true∧RdD (fun b=>b<W.heap.size) W v (.list (l.map enT))∧(∀ t∈l,okT t)∧l.length≤maxLen∧jr l+1≤Rows.uptoBulk x.1:=by
 have k2:Tryz.prog.cellsOf 28=2:=by kernel_rfl
 rcases Deep.open_slice Tryz.underlying26 h with ⟨rfl,rfl⟩ | ⟨a,len,cap,m,n',DD,Pl,rfl,_,hl,hm,hmm,hx,hel⟩
 ·exact ⟨_,[],rfl,rfl,.lF _,(fun _ h=>by cases h),by simp,by simp [jr,Rows.uptoBulk]⟩
 simp only [if_true] at hmm
 subst hmm
 rw [k2] at hel
 haveI:Inhabited Tm:=⟨.mk [] []⟩
 obtain ⟨y,hy⟩:=Deep.choose_lt (α:=Tm) (n:=len) (p:=fun i t=>(∃ v0 v1,W.cell? (a.add (i*2+0))=some v0∧W.cell? (a.add (i*2+1))=some v1∧adl W t v0 v1)∧okT t∧pY t≤Rows.uptoBulk (DD i)) (fun i hi=>by
  obtain ⟨cs',h1,h2⟩:=hel i (by omega)
  obtain ⟨t,v0,v1,rfl,ht,hok,hco⟩:=IH _ _ _ (by
   rw [hx]
   have hmem:DD i∈(List.range len).map DD:=List.mem_map.2 ⟨i,List.mem_range.2 hi,rfl⟩
   have:=List.sizeOf_lt_of_mem hmem
   simp only [DataW.slice.sizeOf_spec]
   omega) h2
  obtain ⟨_,_,h3⟩:=World.cells?_some h1
  have e0:=h3 0 (by omega)
  have e1:=h3 1 (by omega)
  rw [Deep.add_add] at e0 e1
  exact ⟨t,⟨v0,v1,by simpa using e0,by simpa using e1,ht⟩,hok,hco⟩)
 refine ⟨_,(List.range len).map y,rfl,rfl,?_,fun t ht=>?_,by simp;omega,?_⟩
 ·refine Qy (sz:=2) (by simp) hl hm (by decide) (fun hc=>?_) fun i x hi=>?_
  ·obtain ⟨cs',h1,_⟩:=hel 0 hc
   obtain ⟨_,hlen,h3⟩:=World.cells?_some h1
   have:=h3 0 (by omega)
   rw [Deep.add_add,Nat.zero_mul] at this
   rw [this]
   exact ⟨_,List.getElem?_eq_getElem (by omega)⟩
  ·simp only [List.map_map,List.getElem?_map,Option.map_eq_some_iff] at hi
   obtain ⟨r,hri,rfl⟩:=hi
   have hi:i<len:=by have:=(List.getElem?_eq_some_iff.1 hri).1;simpa using this
   obtain rfl:r=i:=by rw [List.getElem?_range hi] at hri;exact (Option.some.inj hri).symm
   obtain ⟨⟨v0,v1,c0,c1,o0,o1,r0,r1⟩,_⟩:=hy r hi
   rw [show (enT ∘ y) r=tD (y r).name (y r).args from ZW _]
   refine ⟨rfl,fun j c hc=>?_⟩
   have hc:[D.str (y r).name,D.list ((y r).args.map enT)][j]?=some c:=hc
   match j,hc with
   | 0,hc=>obtain rfl:=Option.some.inj hc;exact ⟨v0,c0,o0,rfl,r0⟩
   | 1,hc=>obtain rfl:=Option.some.inj hc;exact ⟨v1,c1,o1,rfl,r1⟩
   | j+2,hc=>simp at hc
 ·obtain ⟨r,hr,rfl⟩:=List.mem_map.1 ht
  exact (hy r (List.mem_range.1 hr)).2.1
 ·rw [hx,Rows.uptoBulk,jL,jL,Eo,List.map_map,List.map_map]
  have:=Oi (l:=List.range len) (f:=pY ∘ y) (g:=Rows.uptoBulk ∘ DD) fun i hi=>(hy i (List.mem_range.1 hi)).2.2
  omega
set_option maxRecDepth 100000 in
theorem WT:∀ (N n:Nat) (cs:List Value) (x:DataW H×List MemPlace),SizeOf.sizeOf x.1<N→DataW.trod enc Tryz.prog W 0 (fun _=>true) held n 28 cs=some x→∃ (t:Tm) (v0 v1:Value),cs=[v0,v1]∧adl W t v0 v1∧okT t∧pY t≤Rows.uptoBulk x.1
 | 0,_,_,_,hN,_=>by omega
 | N+1,n,cs,x,hN,h=>by
   have k1:Tryz.prog.cellsOf 9=1:=by kernel_rfl
   have k1':Tryz.prog.cellsOf 26=1:=by kernel_rfl
   have k2:Tryz.prog.cellsOf 28=2:=by kernel_rfl
   obtain ⟨y0,y1,m,hx,hl,h0,h1⟩:=trod_struct2 Tryz.underlying28 h
   rw [k2] at hl
   match cs,hl with
   | [c0,c1],_=>
     simp only [k1,k1',List.drop,List.take] at h0 h1
     obtain ⟨s,e0,hy0,hs⟩:=DataW.trod_string Tryz.underlying9 h0
     cases e0
     have hsz:SizeOf.sizeOf y1.1<N:=by
      rw [hx] at hN
      simp at hN
      omega
     obtain ⟨v,l,e1,o1,r1,hok,hlen,hco⟩:=WS h1 (fun n' cs' y hy hh=>WT N n' cs' y (by omega) hh)
     cases e1
     refine ⟨.mk s.data.toList l,_,_,rfl,⟨rfl,o1,ahy hs,r1⟩,kF.2 ⟨by simp only [Tm.args];simp only [maxLen] at hlen;omega,hok⟩,?_⟩
     rw [hx,hy0]
     simp only [Rows.uptoBulk,Rows.uptoBulkAll,pY]
     omega
def anf (W:World) (s:Sn) (v0 v1 v2:Value):Prop:=adl W s.1 v0 v1∧v2.oneCell'=true∧RdD (fun b=>b<W.heap.size) W v2 (.list (s.2.map enT))
set_option maxRecDepth 100000 in
theorem aky {n:Nat} {cs:List Value} {x:DataW H×List MemPlace} (h:DataW.trod enc Tryz.prog W 0 (fun _=>true) held n 30 cs=some x) :
  ∃ (s:Sn) (v0 v1 v2:Value),cs=[v0,v1,v2]∧anf W s v0 v1 v2∧okS s∧mY s≤2*Rows.uptoBulk x.1:=by
 have k1:Tryz.prog.cellsOf 28=2:=by kernel_rfl
 have k1':Tryz.prog.cellsOf 26=1:=by kernel_rfl
 have k3:Tryz.prog.cellsOf 30=3:=by kernel_rfl
 obtain ⟨y0,y1,m,hx,hl,h0,h1⟩:=trod_struct2 Tryz.underlying30 h
 rw [k3] at hl
 match cs,hl with
 | [c0,c1,c2],_=>
   simp only [k1,k1',List.drop,List.take] at h0 h1
   obtain ⟨t,v0,v1,e0,ht,hok,hco⟩:=WT _ _ _ _ (Nat.lt_succ_self _) h0
   obtain ⟨v2,l,e1,o1,r1,hok1,_,hco1⟩:=WS h1 (fun n' cs' y _ hh=>WT _ n' cs' y (Nat.lt_succ_self _) hh)
   cases e0;cases e1
   refine ⟨(t,l),_,_,_,rfl,⟨ht,o1,r1⟩,⟨hok,hok1⟩,?_⟩
   rw [hx]
   simp only [Rows.uptoBulk,Rows.uptoBulkAll,mY]
   omega
set_option maxRecDepth 100000 in
theorem Qx {v:Value} {d:DataW H} {p:List MemPlace} (h:DataW.Trod enc Tryz.prog W 0 (fun _=>true) held 22 v d p) (hv:v.cells.toList=[v]) :
  ∃ l:List Sn,RdD (fun b=>b<W.heap.size) W v (.list (l.map enS))∧(∀ s∈l,okS s)∧(l.map mY).sum≤2*Rows.uptoBulk d:=by
 obtain ⟨n,h⟩:=h
 rw [hv] at h
 have k3:Tryz.prog.cellsOf 30=3:=by kernel_rfl
 rcases Deep.open_slice Tryz.underlying22 h with ⟨hcs,_⟩ | ⟨a,len,cap,m,n',DD,Pl,hcs,_,hl,hm,hmm,hx,hel⟩
 ·cases hcs
  exact ⟨[],.lF _,(fun _ h=>by cases h),by simp⟩
 cases hcs
 simp only [if_true] at hmm
 subst hmm
 rw [k3] at hel
 haveI:Inhabited Sn:=⟨(.mk [] [],[])⟩
 obtain ⟨y,hy⟩:=Deep.choose_lt (α:=Sn) (n:=len) (p:=fun i s=>(∃ v0 v1 v2,W.cell? (a.add (i*3+0))=some v0∧W.cell? (a.add (i*3+1))=some v1∧W.cell? (a.add (i*3+2))=some v2∧anf W s v0 v1 v2)∧okS s∧mY s≤2*Rows.uptoBulk (DD i)) (fun i hi=>by
  obtain ⟨cs',h1,h2⟩:=hel i (by omega)
  obtain ⟨s,v0,v1,v2,rfl,hs,hok,hco⟩:=aky h2
  obtain ⟨_,_,h3⟩:=World.cells?_some h1
  have e0:=h3 0 (by omega)
  have e1:=h3 1 (by omega)
  have e2:=h3 2 (by omega)
  rw [Deep.add_add] at e0 e1 e2
  exact ⟨s,⟨v0,v1,v2,by simpa using e0,by simpa using e1,by simpa using e2,hs⟩,hok,hco⟩)
 refine ⟨(List.range len).map y,?_,fun s hs=>?_,?_⟩
 ·refine Qy (sz:=3) (by simp) hl hm (by decide) (fun hc=>?_) fun i x hi=>?_
  ·obtain ⟨cs',h1,_⟩:=hel 0 hc
   obtain ⟨_,hlen,h3⟩:=World.cells?_some h1
   have:=h3 0 (by omega)
   rw [Deep.add_add,Nat.zero_mul] at this
   rw [this]
   exact ⟨_,List.getElem?_eq_getElem (by omega)⟩
  ·simp only [List.map_map,List.getElem?_map,Option.map_eq_some_iff] at hi
   obtain ⟨r,hri,rfl⟩:=hi
   have hi:i<len:=by have:=(List.getElem?_eq_some_iff.1 hri).1;simpa using this
   obtain rfl:r=i:=by rw [List.getElem?_range hi] at hri;exact (Option.some.inj hri).symm
   obtain ⟨⟨v0,v1,v2,c0,c1,c2,⟨o0,o1,r0,r1⟩,o2,r2⟩,_⟩:=hy r hi
   refine ⟨rfl,fun j c hc=>?_⟩
   have hc:[D.str (y r).1.name,D.list ((y r).1.args.map enT),D.list ((y r).2.map enT)][j]?=some c:=hc
   match j,hc with
   | 0,hc=>obtain rfl:=Option.some.inj hc;exact ⟨v0,c0,o0,rfl,r0⟩
   | 1,hc=>obtain rfl:=Option.some.inj hc;exact ⟨v1,c1,o1,rfl,r1⟩
   | 2,hc=>obtain rfl:=Option.some.inj hc;exact ⟨v2,c2,o2,rfl,r2⟩
   | j+3,hc=>simp at hc
 ·obtain ⟨r,hr,rfl⟩:=List.mem_map.1 hs
  exact (hy r (List.mem_range.1 hr)).2.1
 ·have hx1:d=DataW.slice ((List.range len).map DD) ((List.range (m-len)).map fun j=>DD (len+j)):=congrArg Prod.fst hx
  rw [hx1,Rows.uptoBulk,jL,jL,List.map_map,List.map_map]
  have h1:=Oi (l:=List.range len) (f:=mY ∘ y) (g:=fun i=>2*Rows.uptoBulk (DD i)) fun i hi=>(hy i (List.mem_range.1 hi)).2.2
  have h2:∀ l:List Nat,(l.map fun i=>2*Rows.uptoBulk (DD i)).sum=2*(l.map (Rows.uptoBulk ∘ DD)).sum:=fun l=>by
   induction l with
   | nil=>rfl
   | cons z r ih=>simp only [List.map_cons,List.sum_cons,ih,Function.comp];omega
  rw [h2] at h1
  omega
end
end Go.Proofs.YtbhfbliodeagmaaGreatDoor
namespace Go.Own
theorem VJ (t:Tm):1≤pY t:=by have:=Ir t;omega
theorem Dh:∀ l:List Tm,l.length≤jr l
 | []=>by simp [jr]
 | t::ts=>by have:=VJ t;have:=Dh ts;simp only [List.length_cons,jr];omega
theorem Rx {α:Type} {f:α→Nat} {x:α}:∀ {l:List α},x∈l→f x≤(l.map f).sum
 | y::r,h=>by
   simp only [List.map_cons,List.sum_cons]
   rcases List.mem_cons.1 h with rfl | h
   ·omega
   ·have:=Rx (f:=f) h;omega
theorem MG:∀ l:List Sn,l.length≤(l.map mY).sum
 | []=>by simp
 | s::r=>by
   have:=MG r
   have:1≤mY s:=by unfold mY;omega
   simp only [List.length_cons,List.map_cons,List.sum_cons];omega
theorem FV:∀ l:List Sn,(bY l).length≤(l.map mY).sum
 | []=>by simp [bY]
 | s::r=>by
   have h1:=FV r
   have h2:=Wh s
   have:bY (s::r)=textS s++bY r:=by simp [bY]
   rw [this,List.length_append,List.map_cons,List.sum_cons];omega
theorem Bj {l:List Sn} {n:Nat} (h:(l.map mY).sum≤2*n) (hn:n≤1048576):l.length≤10000000∧(bY l).length≤1000000000∧∀ s∈l,s.2.length≤10000000:=by
 have h1:=MG l
 have h2:=FV l
 refine ⟨by omega,by omega,fun s hs=>?_⟩
 have h3:=Rx (f:=mY) hs
 have h4:=Dh s.2
 have h5:mY s=pY s.1+3+2*jr s.2:=rfl
 omega
end Go.Own
