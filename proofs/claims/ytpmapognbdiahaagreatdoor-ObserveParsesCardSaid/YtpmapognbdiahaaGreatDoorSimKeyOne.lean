/- Sim: simplify.key at numbers below a hundred. -/
import Derived.Test.YtpmapognbdiahaaGreatDoorSimW3And
import Derived.Test.YtpmapognbdiahaaGreatDoorKeyCAnd
set_option linter.all false
namespace Go.Sim
open Go Go.RowKit Go.Proofs
open Go.Abs (TE TK SK TOK)
noncomputable def Vf {R:Type} (i:Nat) (K:Nat→Nat→R):R:=
 aJ (Nat.blt i 10) (K 1 (Nat.add 48 i)) (aT (Nat.add (Nat.mul (Nat.add 48 (Nat.div i 10)) 256) (Nat.add 48 (Nat.mod i 10))) fun n=>K 2 n)
theorem FW {R:Type} {i:Nat} (h:i<100) (K:Nat→Nat→R):Vf i K=K (Lib.decDigits i).length (aU (Lib.decDigits i)):=by
 unfold Vf;rw [aQ,aI];have u8:∀ n,n<10→(UInt8.ofNat (48+n)).toNat=48+n:=fun n hn=>by
  rw [UInt8.toNat_ofNat'];omega
 by_cases h1:i<10
 ·rw [if_pos (aN.2 h1),Lib.decDigits_one h1];have:aU [UInt8.ofNat (48+i)]=Nat.add 48 i:=by
   simp only [aU,List.length_nil,Nat.mul_zero,Nat.pow_zero,Nat.mul_one,Nat.add_zero];exact u8 i h1
  rw [this];rfl
 ·rw [if_neg (fun e=>h1 (aN.1 e)),Lib.decDigits_two h1 h];have:aU [UInt8.ofNat (48+i / 10),UInt8.ofNat (48+i % 10)]=Nat.add (Nat.mul (Nat.add 48 (Nat.div i 10)) 256) (Nat.add 48 (Nat.mod i 10)):=by
   simp only [aU,List.length_nil,List.length_cons,Nat.mul_zero,Nat.pow_zero,Nat.mul_one,Nat.add_zero,Nat.zero_add];rw [u8 (i / 10) (by omega),u8 (i % 10) (by omega)];rfl
  rw [this];rfl
noncomputable def ahj {R:Type} (vs:List V):Nat→Nat→(Nat→Nat→R)→R→R:=
 List.rec (motive:=fun _=>Nat→Nat→(Nat→Nat→R)→R→R) (fun l n K _=>K l n) (fun v _ ih l n K e=>asInt v (fun k i=>aJ (Nat.beq (ikN k) 3) (inB i 100 (fun i=>
  Vf i fun l' n'=>aT (Nat.add (Nat.add l 1) l') fun l2=>aT (Nat.add (Nat.mul (Nat.add (Nat.mul n 256) 32) (Nat.pow 2 (Nat.mul 8 l'))) n') fun n2=>ih l2 n2 K e) e) e) e) vs
theorem NJ {R:Type} {K:Nat→Nat→R} {e r:R} (he:e≠r):∀ (vs:List V) (bs:List UInt8),ahj vs bs.length (aU bs) K e=r →
  ∃ ks:List Nat,vs=ks.map (fun (k:Nat)=>V.int .i64 k)∧(∀ k∈ks,k<100)∧K (bs++ks.flatMap fun k=>32::Lib.decDigits k).length (aU (bs++ks.flatMap fun k=>32::Lib.decDigits k))=r
 | [],bs,h=>⟨[],rfl,fun k hk=>(by cases hk),by simpa using (show K bs.length (aU bs)=r from h)⟩
 | v::vs,bs,h=>by
   obtain ⟨k,i,rfl,h1⟩:=dH h he;obtain ⟨hk,h2⟩:=aG h1 he;obtain rfl:k = .i64:=jI (k' := .i64) hk;obtain ⟨i,rfl,hi,h3⟩:=iY h2 he;rw [FW hi,aI,aI] at h3;have e1:Nat.add (Nat.add bs.length 1) (Lib.decDigits i).length=(bs++32::Lib.decDigits i).length:=by
    show bs.length+1+(Lib.decDigits i).length=_;simp;omega
   have e2:Nat.add (Nat.mul (Nat.add (Nat.mul (aU bs) 256) 32) (Nat.pow 2 (Nat.mul 8 (Lib.decDigits i).length))) (aU (Lib.decDigits i))=aU (bs++32::Lib.decDigits i):=by
    rw [show bs++32::Lib.decDigits i=(bs++[32])++Lib.decDigits i by simp,dQ,dQ];show (aU bs*256+32)*2 ^ (8*(Lib.decDigits i).length)+aU (Lib.decDigits i)=_;have:aU [32]=32:=(by simp [aU]);rw [this];simp
   rw [e1,e2] at h3;obtain ⟨ks,rfl,hks,hK⟩:=NJ he vs (bs++32::Lib.decDigits i) h3;refine ⟨i::ks,rfl,fun k hk=>?_,by simpa using hK⟩;rcases List.mem_cons.1 hk with rfl | hk
   ·exact hi
   ·exact hks k hk
noncomputable def Tq:Pre:=fun args t nx _=>
 l1 args (fun a=>asAgg a (fun cs=>l3 cs (fun x y z=>asInt x (fun k i=>asInt y (fun k' j=>aJ (and (Nat.beq (ikN k) 3) (Nat.beq (ikN k') 3)) (inB i 100 (fun i=>inB j 100 (fun j=>
  Vf i fun l n=>Vf j fun l' n'=>aT (Nat.add (Nat.add l 1) l') fun lz=>aT (Nat.add (Nat.mul (Nat.add (Nat.mul n 256) 32) (Nat.pow 2 (Nat.mul 8 l'))) n') fun nz=>
   mZ z (fun id sz off len _=>aJ (and (Nat.beq sz 1) (and (Nat.blt 0 len) (Nat.ble len 1000))) (iP (id.get t) (fun _ _ _ cs=>rM len cs off (fun vs=>ahj vs lz nz (fun l n => .ret (.str l n) t nx) (.bad 434)) (.bad 435)) (.bad 436)) (.bad 437))
    (qO z (fun _ => .ret (.str lz nz) t nx) (.bad 432))) (.bad 431)) (.bad 431)) (.bad 433)) (.bad 433)) (.bad 433)) (.bad 433)) (.bad 433)) (.bad 433)
section
variable {T:Nat→TE} {w0:World} {ng:Nat}
theorem Qg (hng:ng≠0):Ea Tryz.prog T w0 ng 143 Tq:=by
 intro args t nx e v t' nx' h;have hb:∀ n,FR.bad n ≠ .ret v t' nx':=fun n h=>by cases h
 obtain ⟨a,rfl,h⟩:=ku h (hb _);obtain ⟨cs,rfl,h⟩:=ni h (hb _);obtain ⟨x,y,z,rfl,h⟩:=NG h (hb _);obtain ⟨k,i,rfl,h⟩:=dH h (hb _);obtain ⟨k',j,rfl,h⟩:=dH h (hb _);obtain ⟨hk,h⟩:=aG h (hb _);obtain ⟨hk1,hk2⟩:=aB hk;obtain rfl:k = .i64:=jI (k' := .i64) hk1;obtain rfl:k' = .i64:=jI (k' := .i64) hk2;obtain ⟨i,rfl,hi,h⟩:=iY h (hb _);obtain ⟨j,rfl,hj,h⟩:=iY h (hb _);rw [FW hi,FW hj,aI,aI] at h;have hl:=jf hi;have hl':=jf hj;have e1:Nat.add (Nat.add (Lib.decDigits i).length 1) (Lib.decDigits j).length=(key2 i j).length:=by
  show (Lib.decDigits i).length+1+(Lib.decDigits j).length=_;simp [key2];omega
 have e2:Nat.add (Nat.mul (Nat.add (Nat.mul (aU (Lib.decDigits i)) 256) 32) (Nat.pow 2 (Nat.mul 8 (Lib.decDigits j).length))) (aU (Lib.decDigits j))=aU (key2 i j):=by
  unfold key2;rw [dQ,dQ];show (aU (Lib.decDigits i)*256+32)*2 ^ (8*(Lib.decDigits j).length)+aU (Lib.decDigits j)=_;have:aU [32]=32:=by simp [aU]
  rw [this];simp
 rw [e1,e2] at h;have arg:∀ (g:Gh) (n:Nat) (vs:List Value),RVL g n [.agg [.int .i64 i,.int .i64 j,z]] vs→∃ zz,vs=[.agg #[.int .i64 i,.int .i64 j,zz]]∧RV g n z zz:=by
  intro g n vs hrv;obtain ⟨u,vs1,rfl,hu,hrv⟩:=hrv.inv;have:=hrv.jH;subst this;cases hu with
  | agg cs vs q1 q2 q3=>
    obtain ⟨x,y,zz,rfl⟩:∃ x y z,vs=#[x,y,z]:=by
     match vs,q1 with
     | ⟨[x,y,z]⟩,_=>exact ⟨x,y,z,rfl⟩
    have h1:=q2 0 _ x rfl rfl;have h2:=q2 1 _ y rfl rfl;have h3:=q2 2 _ zz rfl rfl;cases h1;cases h2;exact ⟨zz,rfl,h3⟩
 rcases ji h with ⟨id,sz,off,len,cap,rfl,h⟩ | ⟨_,h⟩
 ·obtain ⟨hc,h⟩:=aG h (hb _);obtain ⟨c1,c2⟩:=aB hc;obtain ⟨c3,c4⟩:=aB c2;have c3':=aN.1 c3;have c4':=aY.1 c4;obtain ⟨ro,bz,bh,cs,hg,h⟩:=fK h (hb _);obtain ⟨vs,hcs,h⟩:=jJ h (hb _);obtain ⟨ks,rfl,hks,hK⟩:=NJ (hb _) vs (key2 i j) h;clear h;obtain ⟨hlen,hget⟩:=dW hcs;rw [List.length_map] at hlen;subst hlen;cases hK;refine .inl (.inl ⟨⟨_,Tryz.func143,by kernel_rfl,rfl⟩,fun g hp w vs hr hs hrv=>?_⟩);obtain ⟨zz,rfl,hzz⟩:=arg g _ vs hrv;cases hzz with
  | sl _ _ _ _ _ a c i1 i2 i3 i4 i5 i6 i7=>
  obtain rfl:=i7 (by omega);obtain ⟨cur,Tb,fz,hw,_,_,_,_⟩:=hr.blk hs hg;have hb0:(g id).b<w.heap.size:=by
   rcases Nat.lt_or_ge (g id).b w.heap.size with hlt | hge
   ·exact hlt
   ·rw [Array.getElem?_eq_none hge] at hw;cases hw
  have hcell:∀ (n k:Nat),ks[n]?=some k→w.cell? ⟨(g id).b,(g id).o+off+n,none⟩=some (.int .i64 k):=fun n k hk=>by
   obtain ⟨hn,_⟩:=List.getElem?_eq_some_iff.1 hk;have hv:(bOf (off+n)).get cs=some (.int .i64 k):=(by rw [hget n hn];simp [hk]);obtain ⟨u,hu1,hu2,_⟩:=hr.cell hs hg hv;cases hu2;rw [Nat.add_assoc];exact hu1
  refine (Tryz.akj i j hi hj (g id).b ((g id).o+off) c ks hks c4' w hb0 hcell).mono ?_;rintro e w' ⟨rfl,hB⟩;have st:Step T w0 ng g hp t nx w g hp t nx w' := .idle hr hs ⟨hB.os,hB.tape,hB.output,hB.size,fun e=>absurd e hng⟩ hB.block;refine ⟨g,hp,_,rfl,st,?_⟩;have:=zJ i j hi hj ks hks;exact .str (lW i j ks) (by simp only [maxL];omega)
 ·obtain ⟨hz,h⟩:=iI h (hb _);cases h;refine .inl (.inl ⟨⟨_,Tryz.func143,by kernel_rfl,rfl⟩,fun g hp w vs hr hs hrv=>?_⟩);obtain ⟨zz,rfl,hzz⟩:=arg g _ vs hrv;obtain ⟨q,cap,rfl⟩:∃ q cap,zz = .slice q 0 cap:=by
   rcases hz with rfl | rfl<;>cases hzz<;>exact ⟨_,_,rfl⟩
  refine (Tryz.akk i j hi hj q cap w).mono ?_;rintro e w' ⟨rfl,hB⟩;have st:Step T w0 ng g hp t nx w g hp t nx w' := .idle hr hs ⟨hB.os,hB.tape,hB.output,hB.size,fun e=>absurd e hng⟩ hB.block;refine ⟨g,hp,_,rfl,st,?_⟩;exact .str _ (by simp [key2,maxL];omega)
end
end Go.Sim
