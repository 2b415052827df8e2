/- Sim: table.Key at numbers below a hundred. -/
import Derived.Test.YthckjidmpbiccaaGreatDoorSimKeyOne
import Derived.Test.YthckjidmpbiccaaGreatDoorTabCOne
set_option linter.unusedVariables false
set_option linter.unusedSimpArgs false
set_option linter.all false
namespace Go.Sim
open Go Go.RowKit Go.Proofs
open Go.Abs (TE TK SK TOK)
noncomputable def akm {R:Type} (vs:List V):Nat→Nat→(Nat→Nat→R)→R→R:=
 List.rec (motive:=fun _=>Nat→Nat→(Nat→Nat→R)→R→R) (fun l n K _=>K l n) (fun v _ ih l n K e=>asInt v (fun k i=>aH (Nat.beq (ikN k) 3) (inB i 100 (fun i=>
  J8 i fun l' n'=>aQ (Nat.add (Nat.add l 1) l') fun l2=>aQ (Nat.add (Nat.mul (Nat.add (Nat.mul n 256) 44) (Nat.pow 2 (Nat.mul 8 l'))) n') fun n2=>ih l2 n2 K e) e) e) e) vs
theorem Ju (bs ds:List UInt8) (c:UInt8):Nat.add (Nat.add bs.length 1) ds.length=(bs++c::ds).length:=by
 show bs.length+1+ds.length=_
 simp;omega
theorem Jt (bs ds:List UInt8) (c:UInt8):Nat.add (Nat.mul (Nat.add (Nat.mul (aS bs) 256) c.toNat) (Nat.pow 2 (Nat.mul 8 ds.length))) (aS ds)=aS (bs++c::ds):=by
 rw [show bs++c::ds=(bs++[c])++ds by simp,cZ,cZ]
 show (aS bs*256+c.toNat)*2 ^ (8*ds.length)+aS ds=_
 have:aS [c]=c.toNat:=by simp [aS]
 rw [this]
 simp
theorem Qi {R:Type} {K:Nat→Nat→R} {e r:R} (he:e≠r):∀ (vs:List V) (bs:List UInt8),akm vs bs.length (aS bs) K e=r →
  ∃ ks:List Nat,vs=ks.map (fun (k:Nat)=>V.int .i64 k)∧(∀ k∈ks,k<100)∧K (bs++ks.flatMap fun k=>44::Lib.decDigits k).length (aS (bs++ks.flatMap fun k=>44::Lib.decDigits k))=r
 | [],bs,h=>⟨[],rfl,fun k hk=>(by cases hk),by simpa using (show K bs.length (aS bs)=r from h)⟩
 | v::vs,bs,h=>by
   obtain ⟨k,i,rfl,h1⟩:=bP h he
   obtain ⟨hk,h2⟩:=aC h1 he
   obtain rfl:k = .i64:=gZ (k' := .i64) hk
   obtain ⟨i,rfl,hi,h3⟩:=gJ h2 he
   rw [qM hi,aF,aF,Ju bs _ 44,show (44:Nat)=(44:UInt8).toNat from rfl,Jt] at h3
   obtain ⟨ks,rfl,hks,hK⟩:=Qi he vs (bs++44::Lib.decDigits i) h3
   refine ⟨i::ks,rfl,fun k hk=>?_,by simpa using hK⟩
   rcases List.mem_cons.1 hk with rfl | hk
   ·exact hi
   ·exact hks k hk
noncomputable def UD:Pre:=fun args t nx _=>
 l2 args (fun z x=>asInt x (fun k i=>aH (Nat.beq (ikN k) 3) (inB i 100 (fun i=>
  lU z (fun id sz off len _=>aH (and (Nat.beq sz 1) (and (Nat.blt 0 len) (Nat.ble len 1000))) (iM (id.get t) (fun _ _ _ cs=>qW len cs off (fun vs=>
   lc vs (fun v rest=>asInt v (fun k' j=>aH (Nat.beq (ikN k') 3) (inB j 100 (fun j=>
    J8 i fun l n=>J8 j fun l' n'=>aQ (Nat.add (Nat.add l 1) l') fun lz=>aQ (Nat.add (Nat.mul (Nat.add (Nat.mul n 256) 58) (Nat.pow 2 (Nat.mul 8 l'))) n') fun nz=>
     akm rest lz nz (fun l n => .ret (.str l n) t nx) (.bad 444)) (.bad 445)) (.bad 445)) (.bad 445)) (.bad 445)) (.bad 446)) (.bad 446)) (.bad 447)) (.bad 447)) (.bad 443)) (.bad 443)) (.bad 443)) (.bad 443)
section
variable {T:Nat→TE} {w0:World} {ng:Nat}
theorem Ro (hng:ng≠0):CS Tryz.prog T w0 ng 309 UD:=by
 intro args t nx e v t' nx' h
 have hb:∀ n,FR.bad n ≠ .ret v t' nx':=fun n h=>by cases h
 obtain ⟨z,x,rfl,h⟩:=jW h (hb _)
 obtain ⟨k,i,rfl,h⟩:=bP h (hb _)
 obtain ⟨hk,h⟩:=aC h (hb _)
 obtain rfl:k = .i64:=gZ (k' := .i64) hk
 obtain ⟨i,rfl,hi,h⟩:=gJ h (hb _)
 obtain ⟨id,sz,off,len,cap,rfl,h⟩:=qO h (hb _)
 obtain ⟨hc,h⟩:=aC h (hb _)
 obtain ⟨c1,c2⟩:=aB hc
 obtain ⟨c3,c4⟩:=aB c2
 have c3':=aJ.1 c3
 have c4':=aT.1 c4
 obtain ⟨ro,bz,bh,cs,hg,h⟩:=dY h (hb _)
 obtain ⟨vs,hcs,h⟩:=je h (hb _)
 obtain ⟨v0,rest,rfl,h⟩:=Jo h (hb _)
 obtain ⟨k',j,rfl,h⟩:=bP h (hb _)
 obtain ⟨hk',h⟩:=aC h (hb _)
 obtain rfl:k' = .i64:=gZ (k' := .i64) hk'
 obtain ⟨j,rfl,hj,h⟩:=gJ h (hb _)
 rw [qM hi,qM hj,aF,aF,Ju _ _ 58,show (58:Nat)=(58:UInt8).toNat from rfl,Jt] at h
 obtain ⟨ks,rfl,hks,hK⟩:=Qi (hb _) rest _ h
 clear h
 obtain ⟨hlen,hget⟩:=bJ hcs
 have hall:∀ k∈j::ks,k<100:=fun k hk=>by
  rcases List.mem_cons.1 hk with rfl | hk
  ·exact hj
  ·exact hks k hk
 have hlen:(j::ks).length=len:=by rw [← hlen,List.length_cons,List.length_cons,List.length_map]
 subst hlen
 have ht:Lib.decDigits i++58::Lib.decDigits j++(ks.flatMap fun k=>44::Lib.decDigits k)=zD i (j::ks):=by simp [zD,fE]
 rw [ht] at hK
 cases hK
 refine .inl (.inl ⟨⟨_,Tryz.func309,by kernel_rfl,rfl⟩,fun g hp w vs hr hs hrv=>?_⟩)
 obtain ⟨u,vs1,rfl,hu,hrv⟩:=hrv.inv
 obtain ⟨u2,vs2,rfl,hu2,hrv⟩:=hrv.inv
 have:=hrv.nK
 subst this
 cases hu2
 cases hu with
 | sl _ _ _ _ _ a c i1 i2 i3 i4 i5 i6 i7=>
   obtain rfl:=i7 (by omega)
   obtain ⟨cur,Tb,fz,hw,_,_,_,_⟩:=hr.blk hs hg
   have hb0:(g id).b<w.heap.size:=by
    rcases Nat.lt_or_ge (g id).b w.heap.size with hlt | hge
    ·exact hlt
    ·rw [Array.getElem?_eq_none hge] at hw;cases hw
   have hcell:∀ (n k:Nat),(j::ks)[n]?=some k→w.cell? ⟨(g id).b,(g id).o+off+n,none⟩=some (.int .i64 k):=fun n k hk=>by
    obtain ⟨hn,_⟩:=List.getElem?_eq_some_iff.1 hk
    have hv:(bOf (off+n)).get cs=some (.int .i64 k):=by
     rw [hget n hn]
     cases n with
     | zero=>simp at hk;subst hk;rfl
     | succ n=>simp at hk;simp [hk]
    obtain ⟨u,hu1,hu2,_⟩:=hr.cell hs hg hv
    cases hu2
    rw [Nat.add_assoc];exact hu1
   refine (Tryz.afD i hi (g id).b ((g id).o+off) c (j::ks) hall c4' w hb0 hcell).mono ?_
   rintro e w' ⟨rfl,hB⟩
   have st:Step T w0 ng g hp t nx w g hp t nx w' := .idle hr hs ⟨hB.os,hB.tape,hB.output,hB.size,fun e=>absurd e hng⟩ hB.block
   refine ⟨g,hp,_,rfl,st,?_⟩
   have:=Tv i hi (j::ks) hall
   exact .str (zD i (j::ks)) (by simp only [maxL];omega)
end
end Go.Sim
