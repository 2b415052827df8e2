/- Sim: keys and tries, made for evaluation by the kernel. (Printed by a program, gent.py.) -/
import Derived.Test.YtdonenoiehdahaaGreatAbsO3And
set_option linter.all false
namespace Go.Sim
structure B where
 n:Nat
 deriving Inhabited,DecidableEq
structure N8 (α:Type) where
 a:α
 b:α
 c:α
 d:α
 e:α
 f:α
 g:α
 h:α
structure Ln (S A:Type) where
 get:S→A
 put:S→A→S
structure Lw (S A R:Type) where
 set:S→A→(S→R)→R
def Ln.id (A:Type):Ln A A:=⟨fun t=>t,fun _ v=>v⟩
def Lw.id (A R:Type):Lw A A R:=⟨fun _ v K=>K v⟩
noncomputable def ln8 {S A:Type} (l:Ln S A) (i:Nat):Ln (N8 S) A:=
 Bool.rec (motive:=fun _=>Ln (N8 S) A) (Bool.rec (motive:=fun _=>Ln (N8 S) A) (Bool.rec (motive:=fun _=>Ln (N8 S) A) (Bool.rec (motive:=fun _=>Ln (N8 S) A) (Bool.rec (motive:=fun _=>Ln (N8 S) A) (Bool.rec (motive:=fun _=>Ln (N8 S) A) (Bool.rec (motive:=fun _=>Ln (N8 S) A) (⟨fun t=>l.get t.h,fun t v=>⟨t.a,t.b,t.c,t.d,t.e,t.f,t.g,l.put t.h v⟩⟩)
 ⟨fun t=>l.get t.g,fun t v=>⟨t.a,t.b,t.c,t.d,t.e,t.f,l.put t.g v,t.h⟩⟩ (Nat.beq i 6))
 ⟨fun t=>l.get t.f,fun t v=>⟨t.a,t.b,t.c,t.d,t.e,l.put t.f v,t.g,t.h⟩⟩ (Nat.beq i 5))
 ⟨fun t=>l.get t.e,fun t v=>⟨t.a,t.b,t.c,t.d,l.put t.e v,t.f,t.g,t.h⟩⟩ (Nat.beq i 4))
 ⟨fun t=>l.get t.d,fun t v=>⟨t.a,t.b,t.c,l.put t.d v,t.e,t.f,t.g,t.h⟩⟩ (Nat.beq i 3))
 ⟨fun t=>l.get t.c,fun t v=>⟨t.a,t.b,l.put t.c v,t.d,t.e,t.f,t.g,t.h⟩⟩ (Nat.beq i 2))
 ⟨fun t=>l.get t.b,fun t v=>⟨t.a,l.put t.b v,t.c,t.d,t.e,t.f,t.g,t.h⟩⟩ (Nat.beq i 1))
 ⟨fun t=>l.get t.a,fun t v=>⟨l.put t.a v,t.b,t.c,t.d,t.e,t.f,t.g,t.h⟩⟩ (Nat.beq i 0)
noncomputable def lk8 {S A R:Type} (l:Lw S A R) (i:Nat):Lw (N8 S) A R:=
 Bool.rec (motive:=fun _=>Lw (N8 S) A R) (Bool.rec (motive:=fun _=>Lw (N8 S) A R) (Bool.rec (motive:=fun _=>Lw (N8 S) A R) (Bool.rec (motive:=fun _=>Lw (N8 S) A R) (Bool.rec (motive:=fun _=>Lw (N8 S) A R) (Bool.rec (motive:=fun _=>Lw (N8 S) A R) (Bool.rec (motive:=fun _=>Lw (N8 S) A R) (⟨fun t v K=>N8.rec (motive:=fun _=>A→(N8 S→R)→R) (fun a b c d e f g h v K=>l.set h v fun x=>K ⟨a,b,c,d,e,f,g,x⟩) t v K⟩)
 ⟨fun t v K=>N8.rec (motive:=fun _=>A→(N8 S→R)→R) (fun a b c d e f g h v K=>l.set g v fun x=>K ⟨a,b,c,d,e,f,x,h⟩) t v K⟩ (Nat.beq i 6))
 ⟨fun t v K=>N8.rec (motive:=fun _=>A→(N8 S→R)→R) (fun a b c d e f g h v K=>l.set f v fun x=>K ⟨a,b,c,d,e,x,g,h⟩) t v K⟩ (Nat.beq i 5))
 ⟨fun t v K=>N8.rec (motive:=fun _=>A→(N8 S→R)→R) (fun a b c d e f g h v K=>l.set e v fun x=>K ⟨a,b,c,d,x,f,g,h⟩) t v K⟩ (Nat.beq i 4))
 ⟨fun t v K=>N8.rec (motive:=fun _=>A→(N8 S→R)→R) (fun a b c d e f g h v K=>l.set d v fun x=>K ⟨a,b,c,x,e,f,g,h⟩) t v K⟩ (Nat.beq i 3))
 ⟨fun t v K=>N8.rec (motive:=fun _=>A→(N8 S→R)→R) (fun a b c d e f g h v K=>l.set c v fun x=>K ⟨a,b,x,d,e,f,g,h⟩) t v K⟩ (Nat.beq i 2))
 ⟨fun t v K=>N8.rec (motive:=fun _=>A→(N8 S→R)→R) (fun a b c d e f g h v K=>l.set b v fun x=>K ⟨a,x,c,d,e,f,g,h⟩) t v K⟩ (Nat.beq i 1))
 ⟨fun t v K=>N8.rec (motive:=fun _=>A→(N8 S→R)→R) (fun a b c d e f g h v K=>l.set a v fun x=>K ⟨x,b,c,d,e,f,g,h⟩) t v K⟩ (Nat.beq i 0)
theorem lF (i:Nat):i=0∨i=1∨i=2∨i=3∨i=4∨i=5∨i=6∨(∃ m,i=m+7):=by
 rcases i with _ | _ | _ | _ | _ | _ | _ | m
 all_goals simp
structure Ln.Ok {S A:Type} (l:Ln S A):Prop where
 gp:∀ t v,l.get (l.put t v)=v
def Ln.Dis {S A B:Type} (l:Ln S A) (l':Ln S B):Prop:=∀ t v,l.get (l'.put t v)=l.get t
def Lw.Of {S A R:Type} (k:Lw S A R) (l:Ln S A):Prop:=∀ t v K,k.set t v K=K (l.put t v)
theorem ok8 {S A:Type} {l:Ln S A} (h:l.Ok) (i:Nat):(ln8 l i).Ok:=by
 rcases lF i with rfl | rfl | rfl | rfl | rfl | rfl | rfl | ⟨m,rfl⟩<;>exact ⟨fun t v=>h.gp _ v⟩
theorem of8 {S A R:Type} {k:Lw S A R} {l:Ln S A} (h:k.Of l) (i:Nat):(lk8 k i).Of (ln8 l i):=by
 rcases lF i with rfl | rfl | rfl | rfl | rfl | rfl | rfl | ⟨m,rfl⟩<;>exact fun t v K=>h _ v _
theorem agv {S A B:Type} {l:Ln S A} {l':Ln S B} (i:Nat) (h:l.Dis l'):(ln8 l i).Dis (ln8 l' i):=by
 rcases lF i with rfl | rfl | rfl | rfl | rfl | rfl | rfl | ⟨m,rfl⟩<;>exact fun t v=>h _ v
theorem afv {S A B:Type} (l:Ln S A) (l':Ln S B) {i j:Nat} (h:i≠j) (hi:i<8) (hj:j<8):(ln8 l i).Dis (ln8 l' j):=by
 rcases lF i with rfl | rfl | rfl | rfl | rfl | rfl | rfl | ⟨m,rfl⟩<;>rcases lF j with rfl | rfl | rfl | rfl | rfl | rfl | rfl | ⟨m',rfl⟩ <;>
  first | exact fun t v=>rfl | exact absurd rfl h | omega
def Lv (A:Type):Nat→Type
 | 0=>A
 | k+1=>N8 (Lv A k)
noncomputable def e8 {S:Type} (x:S):N8 S:=⟨x,x,x,x,x,x,x,x⟩
noncomputable def lvE {A:Type} (x:A) (k:Nat):Lv A k:=Nat.rec (motive:=fun k=>Lv A k) x (fun _ ih=>e8 ih) k
noncomputable def lnL (A:Type) (k:Nat):Nat→Ln (Lv A k) A:=
 Nat.rec (motive:=fun k=>Nat→Ln (Lv A k) A) (fun _=>Ln.id A) (fun _ ih n=>ln8 (ih (Nat.div n 8)) (Nat.mod n 8)) k
noncomputable def lkL (A R:Type) (k:Nat):Nat→Lw (Lv A k) A R:=
 Nat.rec (motive:=fun k=>Nat→Lw (Lv A k) A R) (fun _=>Lw.id A R) (fun _ ih n=>lk8 (ih (Nat.div n 8)) (Nat.mod n 8)) k
theorem okL (A:Type):∀ k n,(lnL A k n).Ok
 | 0,_=>⟨fun _ _=>rfl⟩
 | k+1,n=>ok8 (okL A k (n / 8)) (n % 8)
theorem ofL (A R:Type):∀ k n,(lkL A R k n).Of (lnL A k n)
 | 0,_=>fun _ _ _=>rfl
 | k+1,n=>of8 (ofL A R k (n / 8)) (n % 8)
theorem O1 (A:Type):∀ k m n,m≠n→m<8 ^ k→n<8 ^ k→(lnL A k m).Dis (lnL A k n)
 | 0,m,n,h,hm,hn=>by simp at hm hn;omega
 | k+1,m,n,h,hm,hn=>by
   rw [Nat.pow_succ] at hm hn;show (ln8 (lnL A k (m / 8)) (m % 8)).Dis (ln8 (lnL A k (n / 8)) (n % 8));by_cases he:m % 8=n % 8
   ·rw [he];exact agv _ (O1 A k _ _ (by omega) (by omega) (by omega))
   ·exact afv _ _ he (by omega) (by omega)
theorem iY {A:Type} (x:A):∀ k n,(lnL A k n).get (lvE x k)=x
 | 0,_=>rfl
 | k+1,n=>by
   show (ln8 (lnL A k (n / 8)) (n % 8)).get (e8 (lvE x k))=x;rcases lF (n % 8) with h | h | h | h | h | h | h | ⟨m,h⟩<;>rw [h]<;>exact iY x k _
structure Tr (α:Type) where
 n0:Lv (Option α) 1
 n1:Lv (Option α) 2
 n2:Lv (Option α) 3
 n3:Lv (Option α) 4
 n4:Lv (Option α) 5
 n5:Lv (Option α) 6
 n6:Lv (Option α) 7
 ov:Nat→Option α
noncomputable def Tr.lf {α:Type}:Tr α:=⟨lvE none 1,lvE none 2,lvE none 3,lvE none 4,lvE none 5,lvE none 6,lvE none 7,fun _=>none⟩
noncomputable instance {α:Type}:Inhabited (Tr α):=⟨.lf⟩
def oH {α:Type} (l:Ln (Lv (Option α) 1) (Option α)):Ln (Tr α) (Option α):=⟨fun t=>l.get t.n0,fun t v=>⟨l.put t.n0 v,t.n1,t.n2,t.n3,t.n4,t.n5,t.n6,t.ov⟩⟩
noncomputable def acj {α R:Type} (l:Lw (Lv (Option α) 1) (Option α) R):Lw (Tr α) (Option α) R:=⟨fun t v K=>Tr.rec (motive:=fun _=>Option α→(Tr α→R)→R) (fun n0 n1 n2 n3 n4 n5 n6 ov v K=>l.set n0 v fun x=>K ⟨x,n1,n2,n3,n4,n5,n6,ov⟩) t v K⟩
def oG {α:Type} (l:Ln (Lv (Option α) 2) (Option α)):Ln (Tr α) (Option α):=⟨fun t=>l.get t.n1,fun t v=>⟨t.n0,l.put t.n1 v,t.n2,t.n3,t.n4,t.n5,t.n6,t.ov⟩⟩
noncomputable def aci {α R:Type} (l:Lw (Lv (Option α) 2) (Option α) R):Lw (Tr α) (Option α) R:=⟨fun t v K=>Tr.rec (motive:=fun _=>Option α→(Tr α→R)→R) (fun n0 n1 n2 n3 n4 n5 n6 ov v K=>l.set n1 v fun x=>K ⟨n0,x,n2,n3,n4,n5,n6,ov⟩) t v K⟩
def oD {α:Type} (l:Ln (Lv (Option α) 3) (Option α)):Ln (Tr α) (Option α):=⟨fun t=>l.get t.n2,fun t v=>⟨t.n0,t.n1,l.put t.n2 v,t.n3,t.n4,t.n5,t.n6,t.ov⟩⟩
noncomputable def ach {α R:Type} (l:Lw (Lv (Option α) 3) (Option α) R):Lw (Tr α) (Option α) R:=⟨fun t v K=>Tr.rec (motive:=fun _=>Option α→(Tr α→R)→R) (fun n0 n1 n2 n3 n4 n5 n6 ov v K=>l.set n2 v fun x=>K ⟨n0,n1,x,n3,n4,n5,n6,ov⟩) t v K⟩
def oC {α:Type} (l:Ln (Lv (Option α) 4) (Option α)):Ln (Tr α) (Option α):=⟨fun t=>l.get t.n3,fun t v=>⟨t.n0,t.n1,t.n2,l.put t.n3 v,t.n4,t.n5,t.n6,t.ov⟩⟩
noncomputable def acg {α R:Type} (l:Lw (Lv (Option α) 4) (Option α) R):Lw (Tr α) (Option α) R:=⟨fun t v K=>Tr.rec (motive:=fun _=>Option α→(Tr α→R)→R) (fun n0 n1 n2 n3 n4 n5 n6 ov v K=>l.set n3 v fun x=>K ⟨n0,n1,n2,x,n4,n5,n6,ov⟩) t v K⟩
def oz {α:Type} (l:Ln (Lv (Option α) 5) (Option α)):Ln (Tr α) (Option α):=⟨fun t=>l.get t.n4,fun t v=>⟨t.n0,t.n1,t.n2,t.n3,l.put t.n4 v,t.n5,t.n6,t.ov⟩⟩
noncomputable def acf {α R:Type} (l:Lw (Lv (Option α) 5) (Option α) R):Lw (Tr α) (Option α) R:=⟨fun t v K=>Tr.rec (motive:=fun _=>Option α→(Tr α→R)→R) (fun n0 n1 n2 n3 n4 n5 n6 ov v K=>l.set n4 v fun x=>K ⟨n0,n1,n2,n3,x,n5,n6,ov⟩) t v K⟩
def ou {α:Type} (l:Ln (Lv (Option α) 6) (Option α)):Ln (Tr α) (Option α):=⟨fun t=>l.get t.n5,fun t v=>⟨t.n0,t.n1,t.n2,t.n3,t.n4,l.put t.n5 v,t.n6,t.ov⟩⟩
noncomputable def ace {α R:Type} (l:Lw (Lv (Option α) 6) (Option α) R):Lw (Tr α) (Option α) R:=⟨fun t v K=>Tr.rec (motive:=fun _=>Option α→(Tr α→R)→R) (fun n0 n1 n2 n3 n4 n5 n6 ov v K=>l.set n5 v fun x=>K ⟨n0,n1,n2,n3,n4,x,n6,ov⟩) t v K⟩
def oq {α:Type} (l:Ln (Lv (Option α) 7) (Option α)):Ln (Tr α) (Option α):=⟨fun t=>l.get t.n6,fun t v=>⟨t.n0,t.n1,t.n2,t.n3,t.n4,t.n5,l.put t.n6 v,t.ov⟩⟩
noncomputable def acd {α R:Type} (l:Lw (Lv (Option α) 7) (Option α) R):Lw (Tr α) (Option α) R:=⟨fun t v K=>Tr.rec (motive:=fun _=>Option α→(Tr α→R)→R) (fun n0 n1 n2 n3 n4 n5 n6 ov v K=>l.set n6 v fun x=>K ⟨n0,n1,n2,n3,n4,n5,x,ov⟩) t v K⟩
def vN {α:Type} (n:Nat):Ln (Tr α) (Option α):=⟨fun t=>t.ov n,fun t v=>⟨t.n0,t.n1,t.n2,t.n3,t.n4,t.n5,t.n6,fun i=>cond (Nat.beq i n) v (t.ov i)⟩⟩
noncomputable def aee {α R:Type} (n:Nat):Lw (Tr α) (Option α) R:=⟨fun t v K=>Tr.rec (motive:=fun _=>R) (fun n0 n1 n2 n3 n4 n5 n6 ov=>K ⟨n0,n1,n2,n3,n4,n5,n6,fun i=>cond (Nat.beq i n) v (ov i)⟩) t⟩
noncomputable def lnT (α:Type) (n:Nat):Ln (Tr α) (Option α):=
 Bool.rec (motive:=fun _=>Ln (Tr α) (Option α)) (Bool.rec (motive:=fun _=>Ln (Tr α) (Option α)) (Bool.rec (motive:=fun _=>Ln (Tr α) (Option α)) (Bool.rec (motive:=fun _=>Ln (Tr α) (Option α)) (Bool.rec (motive:=fun _=>Ln (Tr α) (Option α)) (Bool.rec (motive:=fun _=>Ln (Tr α) (Option α)) (Bool.rec (motive:=fun _=>Ln (Tr α) (Option α)) (vN n)
 (oq (lnL (Option α) 7 (Nat.sub n 299592))) (Nat.blt n 2396744))
 (ou (lnL (Option α) 6 (Nat.sub n 37448))) (Nat.blt n 299592))
 (oz (lnL (Option α) 5 (Nat.sub n 4680))) (Nat.blt n 37448))
 (oC (lnL (Option α) 4 (Nat.sub n 584))) (Nat.blt n 4680))
 (oD (lnL (Option α) 3 (Nat.sub n 72))) (Nat.blt n 584))
 (oG (lnL (Option α) 2 (Nat.sub n 8))) (Nat.blt n 72))
 (oH (lnL (Option α) 1 (Nat.sub n 0))) (Nat.blt n 8)
noncomputable def lkT (α R:Type) (n:Nat):Lw (Tr α) (Option α) R:=
 Bool.rec (motive:=fun _=>Lw (Tr α) (Option α) R) (Bool.rec (motive:=fun _=>Lw (Tr α) (Option α) R) (Bool.rec (motive:=fun _=>Lw (Tr α) (Option α) R) (Bool.rec (motive:=fun _=>Lw (Tr α) (Option α) R) (Bool.rec (motive:=fun _=>Lw (Tr α) (Option α) R) (Bool.rec (motive:=fun _=>Lw (Tr α) (Option α) R) (Bool.rec (motive:=fun _=>Lw (Tr α) (Option α) R) (aee n)
 (acd (lkL (Option α) R 7 (Nat.sub n 299592))) (Nat.blt n 2396744))
 (ace (lkL (Option α) R 6 (Nat.sub n 37448))) (Nat.blt n 299592))
 (acf (lkL (Option α) R 5 (Nat.sub n 4680))) (Nat.blt n 37448))
 (acg (lkL (Option α) R 4 (Nat.sub n 584))) (Nat.blt n 4680))
 (ach (lkL (Option α) R 3 (Nat.sub n 72))) (Nat.blt n 584))
 (aci (lkL (Option α) R 2 (Nat.sub n 8))) (Nat.blt n 72))
 (acj (lkL (Option α) R 1 (Nat.sub n 0))) (Nat.blt n 8)
inductive At (α:Type) (n:Nat):Nat→Prop
 | l0:0≤n→n<8→lnT α n=oH (lnL (Option α) 1 (n-0))→(∀ R,lkT α R n=acj (lkL (Option α) R 1 (n-0)))→At α n 0
 | l1:8≤n→n<72→lnT α n=oG (lnL (Option α) 2 (n-8))→(∀ R,lkT α R n=aci (lkL (Option α) R 2 (n-8)))→At α n 1
 | l2:72≤n→n<584→lnT α n=oD (lnL (Option α) 3 (n-72))→(∀ R,lkT α R n=ach (lkL (Option α) R 3 (n-72)))→At α n 2
 | l3:584≤n→n<4680→lnT α n=oC (lnL (Option α) 4 (n-584))→(∀ R,lkT α R n=acg (lkL (Option α) R 4 (n-584)))→At α n 3
 | l4:4680≤n→n<37448→lnT α n=oz (lnL (Option α) 5 (n-4680))→(∀ R,lkT α R n=acf (lkL (Option α) R 5 (n-4680)))→At α n 4
 | l5:37448≤n→n<299592→lnT α n=ou (lnL (Option α) 6 (n-37448))→(∀ R,lkT α R n=ace (lkL (Option α) R 6 (n-37448)))→At α n 5
 | l6:299592≤n→n<2396744→lnT α n=oq (lnL (Option α) 7 (n-299592))→(∀ R,lkT α R n=acd (lkL (Option α) R 7 (n-299592)))→At α n 6
 | o:2396744≤n→lnT α n=vN n→(∀ R,lkT α R n=aee n)→At α n 7
theorem jd {a b:Nat}:Nat.blt a b=true↔a<b:=⟨Nat.le_of_ble_eq_true,fun h=>Nat.ble_eq_true_of_le h⟩
theorem at_ (α:Type) (n:Nat):∃ i,At α n i:=by
 cases h0:Nat.blt n 8 with
 | true=>exact ⟨0,.l0 (Nat.zero_le _) (jd.1 h0) (by unfold lnT;rw [h0];rfl) (fun R=>by unfold lkT;rw [h0];rfl)⟩
 | false=>
   cases h1:Nat.blt n 72 with
   | true=>exact ⟨1,.l1 (by have:=mt jd.2 (by rw [h0];simp);omega) (jd.1 h1) (by unfold lnT;rw [h0,h1];rfl) (fun R=>by unfold lkT;rw [h0,h1];rfl)⟩
   | false=>
     cases h2:Nat.blt n 584 with
     | true=>exact ⟨2,.l2 (by have:=mt jd.2 (by rw [h1];simp);omega) (jd.1 h2) (by unfold lnT;rw [h0,h1,h2];rfl) (fun R=>by unfold lkT;rw [h0,h1,h2];rfl)⟩
     | false=>
       cases h3:Nat.blt n 4680 with
       | true=>exact ⟨3,.l3 (by have:=mt jd.2 (by rw [h2];simp);omega) (jd.1 h3) (by unfold lnT;rw [h0,h1,h2,h3];rfl) (fun R=>by unfold lkT;rw [h0,h1,h2,h3];rfl)⟩
       | false=>
         cases h4:Nat.blt n 37448 with
         | true=>exact ⟨4,.l4 (by have:=mt jd.2 (by rw [h3];simp);omega) (jd.1 h4) (by unfold lnT;rw [h0,h1,h2,h3,h4];rfl) (fun R=>by unfold lkT;rw [h0,h1,h2,h3,h4];rfl)⟩
         | false=>
           cases h5:Nat.blt n 299592 with
           | true=>exact ⟨5,.l5 (by have:=mt jd.2 (by rw [h4];simp);omega) (jd.1 h5) (by unfold lnT;rw [h0,h1,h2,h3,h4,h5];rfl) (fun R=>by unfold lkT;rw [h0,h1,h2,h3,h4,h5];rfl)⟩
           | false=>
             cases h6:Nat.blt n 2396744 with
             | true=>exact ⟨6,.l6 (by have:=mt jd.2 (by rw [h5];simp);omega) (jd.1 h6) (by unfold lnT;rw [h0,h1,h2,h3,h4,h5,h6];rfl) (fun R=>by unfold lkT;rw [h0,h1,h2,h3,h4,h5,h6];rfl)⟩
             | false=>
               exact ⟨7,.o (by have:=mt jd.2 (by rw [h6];simp);omega) (by unfold lnT;rw [h0,h1,h2,h3,h4,h5,h6]) (fun R=>by unfold lkT;rw [h0,h1,h2,h3,h4,h5,h6])⟩
theorem agb {α:Type} {l:Ln (Lv (Option α) 1) (Option α)} (h:l.Ok):(oH l).Ok:=⟨fun t v=>h.gp t.n0 v⟩
theorem agk {α R:Type} {k:Lw (Lv (Option α) 1) (Option α) R} {l:Ln (Lv (Option α) 1) (Option α)} (h:k.Of l):(acj k).Of (oH l):=fun t v K=>h t.n0 v _
theorem afu {α:Type} {l l':Ln (Lv (Option α) 1) (Option α)} (h:l.Dis l'):(oH l).Dis (oH l'):=fun t v=>h t.n0 v
theorem ags {α:Type} {l:Ln (Lv (Option α) 1) (Option α)} (h:l.get (lvE none 1)=none):(oH l).get .lf=none:=h
theorem aga {α:Type} {l:Ln (Lv (Option α) 2) (Option α)} (h:l.Ok):(oG l).Ok:=⟨fun t v=>h.gp t.n1 v⟩
theorem agj {α R:Type} {k:Lw (Lv (Option α) 2) (Option α) R} {l:Ln (Lv (Option α) 2) (Option α)} (h:k.Of l):(aci k).Of (oG l):=fun t v K=>h t.n1 v _
theorem afs {α:Type} {l l':Ln (Lv (Option α) 2) (Option α)} (h:l.Dis l'):(oG l).Dis (oG l'):=fun t v=>h t.n1 v
theorem agr {α:Type} {l:Ln (Lv (Option α) 2) (Option α)} (h:l.get (lvE none 2)=none):(oG l).get .lf=none:=h
theorem af9 {α:Type} {l:Ln (Lv (Option α) 3) (Option α)} (h:l.Ok):(oD l).Ok:=⟨fun t v=>h.gp t.n2 v⟩
theorem agi {α R:Type} {k:Lw (Lv (Option α) 3) (Option α) R} {l:Ln (Lv (Option α) 3) (Option α)} (h:k.Of l):(ach k).Of (oD l):=fun t v K=>h t.n2 v _
theorem afr {α:Type} {l l':Ln (Lv (Option α) 3) (Option α)} (h:l.Dis l'):(oD l).Dis (oD l'):=fun t v=>h t.n2 v
theorem agq {α:Type} {l:Ln (Lv (Option α) 3) (Option α)} (h:l.get (lvE none 3)=none):(oD l).get .lf=none:=h
theorem af8 {α:Type} {l:Ln (Lv (Option α) 4) (Option α)} (h:l.Ok):(oC l).Ok:=⟨fun t v=>h.gp t.n3 v⟩
theorem agh {α R:Type} {k:Lw (Lv (Option α) 4) (Option α) R} {l:Ln (Lv (Option α) 4) (Option α)} (h:k.Of l):(acg k).Of (oC l):=fun t v K=>h t.n3 v _
theorem afq {α:Type} {l l':Ln (Lv (Option α) 4) (Option α)} (h:l.Dis l'):(oC l).Dis (oC l'):=fun t v=>h t.n3 v
theorem agp {α:Type} {l:Ln (Lv (Option α) 4) (Option α)} (h:l.get (lvE none 4)=none):(oC l).get .lf=none:=h
theorem af7 {α:Type} {l:Ln (Lv (Option α) 5) (Option α)} (h:l.Ok):(oz l).Ok:=⟨fun t v=>h.gp t.n4 v⟩
theorem agf {α R:Type} {k:Lw (Lv (Option α) 5) (Option α) R} {l:Ln (Lv (Option α) 5) (Option α)} (h:k.Of l):(acf k).Of (oz l):=fun t v K=>h t.n4 v _
theorem afp {α:Type} {l l':Ln (Lv (Option α) 5) (Option α)} (h:l.Dis l'):(oz l).Dis (oz l'):=fun t v=>h t.n4 v
theorem agn {α:Type} {l:Ln (Lv (Option α) 5) (Option α)} (h:l.get (lvE none 5)=none):(oz l).get .lf=none:=h
theorem af6 {α:Type} {l:Ln (Lv (Option α) 6) (Option α)} (h:l.Ok):(ou l).Ok:=⟨fun t v=>h.gp t.n5 v⟩
theorem agd {α R:Type} {k:Lw (Lv (Option α) 6) (Option α) R} {l:Ln (Lv (Option α) 6) (Option α)} (h:k.Of l):(ace k).Of (ou l):=fun t v K=>h t.n5 v _
theorem afo {α:Type} {l l':Ln (Lv (Option α) 6) (Option α)} (h:l.Dis l'):(ou l).Dis (ou l'):=fun t v=>h t.n5 v
theorem agm {α:Type} {l:Ln (Lv (Option α) 6) (Option α)} (h:l.get (lvE none 6)=none):(ou l).get .lf=none:=h
theorem af5 {α:Type} {l:Ln (Lv (Option α) 7) (Option α)} (h:l.Ok):(oq l).Ok:=⟨fun t v=>h.gp t.n6 v⟩
theorem agc {α R:Type} {k:Lw (Lv (Option α) 7) (Option α) R} {l:Ln (Lv (Option α) 7) (Option α)} (h:k.Of l):(acd k).Of (oq l):=fun t v K=>h t.n6 v _
theorem afn {α:Type} {l l':Ln (Lv (Option α) 7) (Option α)} (h:l.Dis l'):(oq l).Dis (oq l'):=fun t v=>h t.n6 v
theorem agl {α:Type} {l:Ln (Lv (Option α) 7) (Option α)} (h:l.get (lvE none 7)=none):(oq l).get .lf=none:=h
theorem adQ {α:Type} {x:Ln (Lv (Option α) 1) (Option α)} {y:Ln (Lv (Option α) 2) (Option α)}:(oH x).Dis (oG y):=fun _ _=>rfl
theorem adP {α:Type} {x:Ln (Lv (Option α) 1) (Option α)} {y:Ln (Lv (Option α) 3) (Option α)}:(oH x).Dis (oD y):=fun _ _=>rfl
theorem adO {α:Type} {x:Ln (Lv (Option α) 1) (Option α)} {y:Ln (Lv (Option α) 4) (Option α)}:(oH x).Dis (oC y):=fun _ _=>rfl
theorem adN {α:Type} {x:Ln (Lv (Option α) 1) (Option α)} {y:Ln (Lv (Option α) 5) (Option α)}:(oH x).Dis (oz y):=fun _ _=>rfl
theorem adM {α:Type} {x:Ln (Lv (Option α) 1) (Option α)} {y:Ln (Lv (Option α) 6) (Option α)}:(oH x).Dis (ou y):=fun _ _=>rfl
theorem adL {α:Type} {x:Ln (Lv (Option α) 1) (Option α)} {y:Ln (Lv (Option α) 7) (Option α)}:(oH x).Dis (oq y):=fun _ _=>rfl
theorem adK {α:Type} {x:Ln (Lv (Option α) 1) (Option α)} {y:Nat}:(oH x).Dis ((vN y:Ln (Tr α) (Option α))):=fun _ _=>rfl
theorem adJ {α:Type} {x:Ln (Lv (Option α) 2) (Option α)} {y:Ln (Lv (Option α) 1) (Option α)}:(oG x).Dis (oH y):=fun _ _=>rfl
theorem adI {α:Type} {x:Ln (Lv (Option α) 2) (Option α)} {y:Ln (Lv (Option α) 3) (Option α)}:(oG x).Dis (oD y):=fun _ _=>rfl
theorem adH {α:Type} {x:Ln (Lv (Option α) 2) (Option α)} {y:Ln (Lv (Option α) 4) (Option α)}:(oG x).Dis (oC y):=fun _ _=>rfl
theorem adG {α:Type} {x:Ln (Lv (Option α) 2) (Option α)} {y:Ln (Lv (Option α) 5) (Option α)}:(oG x).Dis (oz y):=fun _ _=>rfl
theorem adF {α:Type} {x:Ln (Lv (Option α) 2) (Option α)} {y:Ln (Lv (Option α) 6) (Option α)}:(oG x).Dis (ou y):=fun _ _=>rfl
theorem adE {α:Type} {x:Ln (Lv (Option α) 2) (Option α)} {y:Ln (Lv (Option α) 7) (Option α)}:(oG x).Dis (oq y):=fun _ _=>rfl
theorem adD {α:Type} {x:Ln (Lv (Option α) 2) (Option α)} {y:Nat}:(oG x).Dis ((vN y:Ln (Tr α) (Option α))):=fun _ _=>rfl
theorem adC {α:Type} {x:Ln (Lv (Option α) 3) (Option α)} {y:Ln (Lv (Option α) 1) (Option α)}:(oD x).Dis (oH y):=fun _ _=>rfl
theorem adB {α:Type} {x:Ln (Lv (Option α) 3) (Option α)} {y:Ln (Lv (Option α) 2) (Option α)}:(oD x).Dis (oG y):=fun _ _=>rfl
theorem adA {α:Type} {x:Ln (Lv (Option α) 3) (Option α)} {y:Ln (Lv (Option α) 4) (Option α)}:(oD x).Dis (oC y):=fun _ _=>rfl
theorem adz {α:Type} {x:Ln (Lv (Option α) 3) (Option α)} {y:Ln (Lv (Option α) 5) (Option α)}:(oD x).Dis (oz y):=fun _ _=>rfl
theorem ady {α:Type} {x:Ln (Lv (Option α) 3) (Option α)} {y:Ln (Lv (Option α) 6) (Option α)}:(oD x).Dis (ou y):=fun _ _=>rfl
theorem adx {α:Type} {x:Ln (Lv (Option α) 3) (Option α)} {y:Ln (Lv (Option α) 7) (Option α)}:(oD x).Dis (oq y):=fun _ _=>rfl
theorem adw {α:Type} {x:Ln (Lv (Option α) 3) (Option α)} {y:Nat}:(oD x).Dis ((vN y:Ln (Tr α) (Option α))):=fun _ _=>rfl
theorem adv {α:Type} {x:Ln (Lv (Option α) 4) (Option α)} {y:Ln (Lv (Option α) 1) (Option α)}:(oC x).Dis (oH y):=fun _ _=>rfl
theorem adu {α:Type} {x:Ln (Lv (Option α) 4) (Option α)} {y:Ln (Lv (Option α) 2) (Option α)}:(oC x).Dis (oG y):=fun _ _=>rfl
theorem adt {α:Type} {x:Ln (Lv (Option α) 4) (Option α)} {y:Ln (Lv (Option α) 3) (Option α)}:(oC x).Dis (oD y):=fun _ _=>rfl
theorem ads {α:Type} {x:Ln (Lv (Option α) 4) (Option α)} {y:Ln (Lv (Option α) 5) (Option α)}:(oC x).Dis (oz y):=fun _ _=>rfl
theorem adr {α:Type} {x:Ln (Lv (Option α) 4) (Option α)} {y:Ln (Lv (Option α) 6) (Option α)}:(oC x).Dis (ou y):=fun _ _=>rfl
theorem adq {α:Type} {x:Ln (Lv (Option α) 4) (Option α)} {y:Ln (Lv (Option α) 7) (Option α)}:(oC x).Dis (oq y):=fun _ _=>rfl
theorem adp {α:Type} {x:Ln (Lv (Option α) 4) (Option α)} {y:Nat}:(oC x).Dis ((vN y:Ln (Tr α) (Option α))):=fun _ _=>rfl
theorem ado {α:Type} {x:Ln (Lv (Option α) 5) (Option α)} {y:Ln (Lv (Option α) 1) (Option α)}:(oz x).Dis (oH y):=fun _ _=>rfl
theorem adn {α:Type} {x:Ln (Lv (Option α) 5) (Option α)} {y:Ln (Lv (Option α) 2) (Option α)}:(oz x).Dis (oG y):=fun _ _=>rfl
theorem adl {α:Type} {x:Ln (Lv (Option α) 5) (Option α)} {y:Ln (Lv (Option α) 3) (Option α)}:(oz x).Dis (oD y):=fun _ _=>rfl
theorem adk {α:Type} {x:Ln (Lv (Option α) 5) (Option α)} {y:Ln (Lv (Option α) 4) (Option α)}:(oz x).Dis (oC y):=fun _ _=>rfl
theorem adi {α:Type} {x:Ln (Lv (Option α) 5) (Option α)} {y:Ln (Lv (Option α) 6) (Option α)}:(oz x).Dis (ou y):=fun _ _=>rfl
theorem adh {α:Type} {x:Ln (Lv (Option α) 5) (Option α)} {y:Ln (Lv (Option α) 7) (Option α)}:(oz x).Dis (oq y):=fun _ _=>rfl
theorem adg {α:Type} {x:Ln (Lv (Option α) 5) (Option α)} {y:Nat}:(oz x).Dis ((vN y:Ln (Tr α) (Option α))):=fun _ _=>rfl
theorem adf {α:Type} {x:Ln (Lv (Option α) 6) (Option α)} {y:Ln (Lv (Option α) 1) (Option α)}:(ou x).Dis (oH y):=fun _ _=>rfl
theorem ade {α:Type} {x:Ln (Lv (Option α) 6) (Option α)} {y:Ln (Lv (Option α) 2) (Option α)}:(ou x).Dis (oG y):=fun _ _=>rfl
theorem adb {α:Type} {x:Ln (Lv (Option α) 6) (Option α)} {y:Ln (Lv (Option α) 3) (Option α)}:(ou x).Dis (oD y):=fun _ _=>rfl
theorem ada {α:Type} {x:Ln (Lv (Option α) 6) (Option α)} {y:Ln (Lv (Option α) 4) (Option α)}:(ou x).Dis (oC y):=fun _ _=>rfl
theorem ac9 {α:Type} {x:Ln (Lv (Option α) 6) (Option α)} {y:Ln (Lv (Option α) 5) (Option α)}:(ou x).Dis (oz y):=fun _ _=>rfl
theorem ac8 {α:Type} {x:Ln (Lv (Option α) 6) (Option α)} {y:Ln (Lv (Option α) 7) (Option α)}:(ou x).Dis (oq y):=fun _ _=>rfl
theorem ac7 {α:Type} {x:Ln (Lv (Option α) 6) (Option α)} {y:Nat}:(ou x).Dis ((vN y:Ln (Tr α) (Option α))):=fun _ _=>rfl
theorem ac6 {α:Type} {x:Ln (Lv (Option α) 7) (Option α)} {y:Ln (Lv (Option α) 1) (Option α)}:(oq x).Dis (oH y):=fun _ _=>rfl
theorem ac5 {α:Type} {x:Ln (Lv (Option α) 7) (Option α)} {y:Ln (Lv (Option α) 2) (Option α)}:(oq x).Dis (oG y):=fun _ _=>rfl
theorem ac4 {α:Type} {x:Ln (Lv (Option α) 7) (Option α)} {y:Ln (Lv (Option α) 3) (Option α)}:(oq x).Dis (oD y):=fun _ _=>rfl
theorem ac3 {α:Type} {x:Ln (Lv (Option α) 7) (Option α)} {y:Ln (Lv (Option α) 4) (Option α)}:(oq x).Dis (oC y):=fun _ _=>rfl
theorem ac2 {α:Type} {x:Ln (Lv (Option α) 7) (Option α)} {y:Ln (Lv (Option α) 5) (Option α)}:(oq x).Dis (oz y):=fun _ _=>rfl
theorem ac1 {α:Type} {x:Ln (Lv (Option α) 7) (Option α)} {y:Ln (Lv (Option α) 6) (Option α)}:(oq x).Dis (ou y):=fun _ _=>rfl
theorem ac0 {α:Type} {x:Ln (Lv (Option α) 7) (Option α)} {y:Nat}:(oq x).Dis ((vN y:Ln (Tr α) (Option α))):=fun _ _=>rfl
theorem acZ {α:Type} {x:Nat} {y:Ln (Lv (Option α) 1) (Option α)}:((vN x:Ln (Tr α) (Option α))).Dis (oH y):=fun _ _=>rfl
theorem acY {α:Type} {x:Nat} {y:Ln (Lv (Option α) 2) (Option α)}:((vN x:Ln (Tr α) (Option α))).Dis (oG y):=fun _ _=>rfl
theorem acX {α:Type} {x:Nat} {y:Ln (Lv (Option α) 3) (Option α)}:((vN x:Ln (Tr α) (Option α))).Dis (oD y):=fun _ _=>rfl
theorem acW {α:Type} {x:Nat} {y:Ln (Lv (Option α) 4) (Option α)}:((vN x:Ln (Tr α) (Option α))).Dis (oC y):=fun _ _=>rfl
theorem acV {α:Type} {x:Nat} {y:Ln (Lv (Option α) 5) (Option α)}:((vN x:Ln (Tr α) (Option α))).Dis (oz y):=fun _ _=>rfl
theorem acU {α:Type} {x:Nat} {y:Ln (Lv (Option α) 6) (Option α)}:((vN x:Ln (Tr α) (Option α))).Dis (ou y):=fun _ _=>rfl
theorem acT {α:Type} {x:Nat} {y:Ln (Lv (Option α) 7) (Option α)}:((vN x:Ln (Tr α) (Option α))).Dis (oq y):=fun _ _=>rfl
theorem okT (α:Type) (n:Nat):(lnT α n).Ok:=by
 obtain ⟨i,h⟩:=at_ α n;cases h with
 | l0 _ _ e _=>rw [e];exact agb (okL (Option α) 1 (n-0))
 | l1 _ _ e _=>rw [e];exact aga (okL (Option α) 2 (n-8))
 | l2 _ _ e _=>rw [e];exact af9 (okL (Option α) 3 (n-72))
 | l3 _ _ e _=>rw [e];exact af8 (okL (Option α) 4 (n-584))
 | l4 _ _ e _=>rw [e];exact af7 (okL (Option α) 5 (n-4680))
 | l5 _ _ e _=>rw [e];exact af6 (okL (Option α) 6 (n-37448))
 | l6 _ _ e _=>rw [e];exact af5 (okL (Option α) 7 (n-299592))
 | o _ e _=>rw [e];exact ⟨fun t v=>by show cond (Nat.beq n n) v _=v;rw [Nat.beq_refl];rfl⟩
theorem ofT (α R:Type) (n:Nat):(lkT α R n).Of (lnT α n):=by
 obtain ⟨i,h⟩:=at_ α n;cases h with
 | l0 _ _ e e'=>rw [e,e'];exact agk (ofL (Option α) R 1 (n-0))
 | l1 _ _ e e'=>rw [e,e'];exact agj (ofL (Option α) R 2 (n-8))
 | l2 _ _ e e'=>rw [e,e'];exact agi (ofL (Option α) R 3 (n-72))
 | l3 _ _ e e'=>rw [e,e'];exact agh (ofL (Option α) R 4 (n-584))
 | l4 _ _ e e'=>rw [e,e'];exact agf (ofL (Option α) R 5 (n-4680))
 | l5 _ _ e e'=>rw [e,e'];exact agd (ofL (Option α) R 6 (n-37448))
 | l6 _ _ e e'=>rw [e,e'];exact agc (ofL (Option α) R 7 (n-299592))
 | o _ e e'=>rw [e,e'];exact fun t v K=>rfl
theorem agu (α:Type) {m n:Nat} (hmn:m≠n):(lnT α m).Dis (lnT α n):=by
 obtain ⟨i,h⟩:=at_ α m;obtain ⟨j,h'⟩:=at_ α n;cases h with
 | l0 a1 a2 e _=>
   rw [e];cases h' with
   | l0 b1 b2 e2 _=>rw [e2];exact afu (O1 (Option α) 1 (m-0) (n-0) (by omega) (by omega) (by omega))
   | l1 b1 b2 e2 _=>rw [e2];exact adQ
   | l2 b1 b2 e2 _=>rw [e2];exact adP
   | l3 b1 b2 e2 _=>rw [e2];exact adO
   | l4 b1 b2 e2 _=>rw [e2];exact adN
   | l5 b1 b2 e2 _=>rw [e2];exact adM
   | l6 b1 b2 e2 _=>rw [e2];exact adL
   | o b1 e2 _=>rw [e2];exact adK
 | l1 a1 a2 e _=>
   rw [e];cases h' with
   | l0 b1 b2 e2 _=>rw [e2];exact adJ
   | l1 b1 b2 e2 _=>rw [e2];exact afs (O1 (Option α) 2 (m-8) (n-8) (by omega) (by omega) (by omega))
   | l2 b1 b2 e2 _=>rw [e2];exact adI
   | l3 b1 b2 e2 _=>rw [e2];exact adH
   | l4 b1 b2 e2 _=>rw [e2];exact adG
   | l5 b1 b2 e2 _=>rw [e2];exact adF
   | l6 b1 b2 e2 _=>rw [e2];exact adE
   | o b1 e2 _=>rw [e2];exact adD
 | l2 a1 a2 e _=>
   rw [e];cases h' with
   | l0 b1 b2 e2 _=>rw [e2];exact adC
   | l1 b1 b2 e2 _=>rw [e2];exact adB
   | l2 b1 b2 e2 _=>rw [e2];exact afr (O1 (Option α) 3 (m-72) (n-72) (by omega) (by omega) (by omega))
   | l3 b1 b2 e2 _=>rw [e2];exact adA
   | l4 b1 b2 e2 _=>rw [e2];exact adz
   | l5 b1 b2 e2 _=>rw [e2];exact ady
   | l6 b1 b2 e2 _=>rw [e2];exact adx
   | o b1 e2 _=>rw [e2];exact adw
 | l3 a1 a2 e _=>
   rw [e];cases h' with
   | l0 b1 b2 e2 _=>rw [e2];exact adv
   | l1 b1 b2 e2 _=>rw [e2];exact adu
   | l2 b1 b2 e2 _=>rw [e2];exact adt
   | l3 b1 b2 e2 _=>rw [e2];exact afq (O1 (Option α) 4 (m-584) (n-584) (by omega) (by omega) (by omega))
   | l4 b1 b2 e2 _=>rw [e2];exact ads
   | l5 b1 b2 e2 _=>rw [e2];exact adr
   | l6 b1 b2 e2 _=>rw [e2];exact adq
   | o b1 e2 _=>rw [e2];exact adp
 | l4 a1 a2 e _=>
   rw [e];cases h' with
   | l0 b1 b2 e2 _=>rw [e2];exact ado
   | l1 b1 b2 e2 _=>rw [e2];exact adn
   | l2 b1 b2 e2 _=>rw [e2];exact adl
   | l3 b1 b2 e2 _=>rw [e2];exact adk
   | l4 b1 b2 e2 _=>rw [e2];exact afp (O1 (Option α) 5 (m-4680) (n-4680) (by omega) (by omega) (by omega))
   | l5 b1 b2 e2 _=>rw [e2];exact adi
   | l6 b1 b2 e2 _=>rw [e2];exact adh
   | o b1 e2 _=>rw [e2];exact adg
 | l5 a1 a2 e _=>
   rw [e];cases h' with
   | l0 b1 b2 e2 _=>rw [e2];exact adf
   | l1 b1 b2 e2 _=>rw [e2];exact ade
   | l2 b1 b2 e2 _=>rw [e2];exact adb
   | l3 b1 b2 e2 _=>rw [e2];exact ada
   | l4 b1 b2 e2 _=>rw [e2];exact ac9
   | l5 b1 b2 e2 _=>rw [e2];exact afo (O1 (Option α) 6 (m-37448) (n-37448) (by omega) (by omega) (by omega))
   | l6 b1 b2 e2 _=>rw [e2];exact ac8
   | o b1 e2 _=>rw [e2];exact ac7
 | l6 a1 a2 e _=>
   rw [e];cases h' with
   | l0 b1 b2 e2 _=>rw [e2];exact ac6
   | l1 b1 b2 e2 _=>rw [e2];exact ac5
   | l2 b1 b2 e2 _=>rw [e2];exact ac4
   | l3 b1 b2 e2 _=>rw [e2];exact ac3
   | l4 b1 b2 e2 _=>rw [e2];exact ac2
   | l5 b1 b2 e2 _=>rw [e2];exact ac1
   | l6 b1 b2 e2 _=>rw [e2];exact afn (O1 (Option α) 7 (m-299592) (n-299592) (by omega) (by omega) (by omega))
   | o b1 e2 _=>rw [e2];exact ac0
 | o a1 e _=>
   rw [e];cases h' with
   | l0 b1 b2 e2 _=>rw [e2];exact acZ
   | l1 b1 b2 e2 _=>rw [e2];exact acY
   | l2 b1 b2 e2 _=>rw [e2];exact acX
   | l3 b1 b2 e2 _=>rw [e2];exact acW
   | l4 b1 b2 e2 _=>rw [e2];exact acV
   | l5 b1 b2 e2 _=>rw [e2];exact acU
   | l6 b1 b2 e2 _=>rw [e2];exact acT
   | o b1 e2 _=>rw [e2];exact fun t v=>by show cond (Nat.beq m n) v _=_;rw [show Nat.beq m n=false from Bool.eq_false_iff.2 fun h=>hmn (Nat.eq_of_beq_eq_true h)];rfl
theorem lfT (α:Type) (n:Nat):(lnT α n).get (.lf:Tr α)=none:=by
 obtain ⟨i,h⟩:=at_ α n;cases h with
 | l0 _ _ e _=>rw [e];exact ags (iY none 1 (n-0))
 | l1 _ _ e _=>rw [e];exact agr (iY none 2 (n-8))
 | l2 _ _ e _=>rw [e];exact agq (iY none 3 (n-72))
 | l3 _ _ e _=>rw [e];exact agp (iY none 4 (n-584))
 | l4 _ _ e _=>rw [e];exact agn (iY none 5 (n-4680))
 | l5 _ _ e _=>rw [e];exact agm (iY none 6 (n-37448))
 | l6 _ _ e _=>rw [e];exact agl (iY none 7 (n-299592))
 | o _ e _=>rw [e];rfl
noncomputable def B.get {α:Type} (k:B) (t:Tr α):Option α:=(lnT α k.n).get t
noncomputable def B.put {α:Type} (k:B) (t:Tr α) (v:Option α):Tr α:=(lnT α k.n).put t v
noncomputable def B.rP {α R:Type} (k:B) (t:Tr α) (v:Option α) (K:Tr α→R):R:=(lkT α R k.n).set t v K
def KI (k:B):Nat:=k.n
noncomputable def B.ZB {R:Type} (k:B) (K:B→R):R:=Nat.rec (motive:=fun _=>(B→R)→R) (fun K=>K ⟨0⟩) (fun p _ K=>K ⟨Nat.succ p⟩) (Nat.add k.n 1) K
def bOf (n:Nat):B:=⟨n⟩
end Go.Sim
