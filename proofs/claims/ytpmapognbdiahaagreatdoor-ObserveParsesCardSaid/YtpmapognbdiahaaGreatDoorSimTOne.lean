/- Sim: keys and tries, made for evaluation by the kernel. (Printed by a program, gent.py.) -/
import Derived.Test.YtpmapognbdiahaaGreatDoorAbsO3And
set_option linter.all false
namespace Go.Sim
structure B where
 n:Nat
 deriving Inhabited,DecidableEq
structure N8 (α:Type) where
 a:α
 b:α
 c:α
 d:α
 e:α
 f:α
 g:α
 h:α
structure Ln (S A:Type) where
 get:S→A
 put:S→A→S
structure Lw (S A R:Type) where
 set:S→A→(S→R)→R
def Ln.id (A:Type):Ln A A:=⟨fun t=>t,fun _ v=>v⟩
def Lw.id (A R:Type):Lw A A R:=⟨fun _ v K=>K v⟩
noncomputable def ln8 {S A:Type} (l:Ln S A) (i:Nat):Ln (N8 S) A:=
 Bool.rec (motive:=fun _=>Ln (N8 S) A) (Bool.rec (motive:=fun _=>Ln (N8 S) A) (Bool.rec (motive:=fun _=>Ln (N8 S) A) (Bool.rec (motive:=fun _=>Ln (N8 S) A) (Bool.rec (motive:=fun _=>Ln (N8 S) A) (Bool.rec (motive:=fun _=>Ln (N8 S) A) (Bool.rec (motive:=fun _=>Ln (N8 S) A) (⟨fun t=>l.get t.h,fun t v=>⟨t.a,t.b,t.c,t.d,t.e,t.f,t.g,l.put t.h v⟩⟩)
 ⟨fun t=>l.get t.g,fun t v=>⟨t.a,t.b,t.c,t.d,t.e,t.f,l.put t.g v,t.h⟩⟩ (Nat.beq i 6))
 ⟨fun t=>l.get t.f,fun t v=>⟨t.a,t.b,t.c,t.d,t.e,l.put t.f v,t.g,t.h⟩⟩ (Nat.beq i 5))
 ⟨fun t=>l.get t.e,fun t v=>⟨t.a,t.b,t.c,t.d,l.put t.e v,t.f,t.g,t.h⟩⟩ (Nat.beq i 4))
 ⟨fun t=>l.get t.d,fun t v=>⟨t.a,t.b,t.c,l.put t.d v,t.e,t.f,t.g,t.h⟩⟩ (Nat.beq i 3))
 ⟨fun t=>l.get t.c,fun t v=>⟨t.a,t.b,l.put t.c v,t.d,t.e,t.f,t.g,t.h⟩⟩ (Nat.beq i 2))
 ⟨fun t=>l.get t.b,fun t v=>⟨t.a,l.put t.b v,t.c,t.d,t.e,t.f,t.g,t.h⟩⟩ (Nat.beq i 1))
 ⟨fun t=>l.get t.a,fun t v=>⟨l.put t.a v,t.b,t.c,t.d,t.e,t.f,t.g,t.h⟩⟩ (Nat.beq i 0)
noncomputable def lk8 {S A R:Type} (l:Lw S A R) (i:Nat):Lw (N8 S) A R:=
 Bool.rec (motive:=fun _=>Lw (N8 S) A R) (Bool.rec (motive:=fun _=>Lw (N8 S) A R) (Bool.rec (motive:=fun _=>Lw (N8 S) A R) (Bool.rec (motive:=fun _=>Lw (N8 S) A R) (Bool.rec (motive:=fun _=>Lw (N8 S) A R) (Bool.rec (motive:=fun _=>Lw (N8 S) A R) (Bool.rec (motive:=fun _=>Lw (N8 S) A R) (⟨fun t v K=>N8.rec (motive:=fun _=>A→(N8 S→R)→R) (fun a b c d e f g h v K=>l.set h v fun x=>K ⟨a,b,c,d,e,f,g,x⟩) t v K⟩)
 ⟨fun t v K=>N8.rec (motive:=fun _=>A→(N8 S→R)→R) (fun a b c d e f g h v K=>l.set g v fun x=>K ⟨a,b,c,d,e,f,x,h⟩) t v K⟩ (Nat.beq i 6))
 ⟨fun t v K=>N8.rec (motive:=fun _=>A→(N8 S→R)→R) (fun a b c d e f g h v K=>l.set f v fun x=>K ⟨a,b,c,d,e,x,g,h⟩) t v K⟩ (Nat.beq i 5))
 ⟨fun t v K=>N8.rec (motive:=fun _=>A→(N8 S→R)→R) (fun a b c d e f g h v K=>l.set e v fun x=>K ⟨a,b,c,d,x,f,g,h⟩) t v K⟩ (Nat.beq i 4))
 ⟨fun t v K=>N8.rec (motive:=fun _=>A→(N8 S→R)→R) (fun a b c d e f g h v K=>l.set d v fun x=>K ⟨a,b,c,x,e,f,g,h⟩) t v K⟩ (Nat.beq i 3))
 ⟨fun t v K=>N8.rec (motive:=fun _=>A→(N8 S→R)→R) (fun a b c d e f g h v K=>l.set c v fun x=>K ⟨a,b,x,d,e,f,g,h⟩) t v K⟩ (Nat.beq i 2))
 ⟨fun t v K=>N8.rec (motive:=fun _=>A→(N8 S→R)→R) (fun a b c d e f g h v K=>l.set b v fun x=>K ⟨a,x,c,d,e,f,g,h⟩) t v K⟩ (Nat.beq i 1))
 ⟨fun t v K=>N8.rec (motive:=fun _=>A→(N8 S→R)→R) (fun a b c d e f g h v K=>l.set a v fun x=>K ⟨x,b,c,d,e,f,g,h⟩) t v K⟩ (Nat.beq i 0)
theorem jO (i:Nat):i=0∨i=1∨i=2∨i=3∨i=4∨i=5∨i=6∨(∃ m,i=m+7):=by
 rcases i with _ | _ | _ | _ | _ | _ | _ | m
 all_goals simp
structure Ln.Ok {S A:Type} (l:Ln S A):Prop where
 gp:∀ t v,l.get (l.put t v)=v
def Ln.Dis {S A B:Type} (l:Ln S A) (l':Ln S B):Prop:=∀ t v,l.get (l'.put t v)=l.get t
def Lw.Of {S A R:Type} (k:Lw S A R) (l:Ln S A):Prop:=∀ t v K,k.set t v K=K (l.put t v)
theorem ok8 {S A:Type} {l:Ln S A} (h:l.Ok) (i:Nat):(ln8 l i).Ok:=by
 rcases jO i with rfl | rfl | rfl | rfl | rfl | rfl | rfl | ⟨m,rfl⟩<;>exact ⟨fun t v=>h.gp _ v⟩
theorem of8 {S A R:Type} {k:Lw S A R} {l:Ln S A} (h:k.Of l) (i:Nat):(lk8 k i).Of (ln8 l i):=by
 rcases jO i with rfl | rfl | rfl | rfl | rfl | rfl | rfl | ⟨m,rfl⟩<;>exact fun t v K=>h _ v _
theorem ako {S A B:Type} {l:Ln S A} {l':Ln S B} (i:Nat) (h:l.Dis l'):(ln8 l i).Dis (ln8 l' i):=by
 rcases jO i with rfl | rfl | rfl | rfl | rfl | rfl | rfl | ⟨m,rfl⟩<;>exact fun t v=>h _ v
theorem aiF {S A B:Type} (l:Ln S A) (l':Ln S B) {i j:Nat} (h:i≠j) (hi:i<8) (hj:j<8):(ln8 l i).Dis (ln8 l' j):=by
 rcases jO i with rfl | rfl | rfl | rfl | rfl | rfl | rfl | ⟨m,rfl⟩<;>rcases jO j with rfl | rfl | rfl | rfl | rfl | rfl | rfl | ⟨m',rfl⟩ <;>
  first | exact fun t v=>rfl | exact absurd rfl h | omega
def Lv (A:Type):Nat→Type
 | 0=>A
 | k+1=>N8 (Lv A k)
noncomputable def e8 {S:Type} (x:S):N8 S:=⟨x,x,x,x,x,x,x,x⟩
noncomputable def lvE {A:Type} (x:A) (k:Nat):Lv A k:=Nat.rec (motive:=fun k=>Lv A k) x (fun _ ih=>e8 ih) k
noncomputable def lnL (A:Type) (k:Nat):Nat→Ln (Lv A k) A:=
 Nat.rec (motive:=fun k=>Nat→Ln (Lv A k) A) (fun _=>Ln.id A) (fun _ ih n=>ln8 (ih (Nat.div n 8)) (Nat.mod n 8)) k
noncomputable def lkL (A R:Type) (k:Nat):Nat→Lw (Lv A k) A R:=
 Nat.rec (motive:=fun k=>Nat→Lw (Lv A k) A R) (fun _=>Lw.id A R) (fun _ ih n=>lk8 (ih (Nat.div n 8)) (Nat.mod n 8)) k
theorem okL (A:Type):∀ k n,(lnL A k n).Ok
 | 0,_=>⟨fun _ _=>rfl⟩
 | k+1,n=>ok8 (okL A k (n / 8)) (n % 8)
theorem ofL (A R:Type):∀ k n,(lkL A R k n).Of (lnL A k n)
 | 0,_=>fun _ _ _=>rfl
 | k+1,n=>of8 (ofL A R k (n / 8)) (n % 8)
theorem I8 (A:Type):∀ k m n,m≠n→m<8 ^ k→n<8 ^ k→(lnL A k m).Dis (lnL A k n)
 | 0,m,n,h,hm,hn=>by simp at hm hn;omega
 | k+1,m,n,h,hm,hn=>by
   rw [Nat.pow_succ] at hm hn;show (ln8 (lnL A k (m / 8)) (m % 8)).Dis (ln8 (lnL A k (n / 8)) (n % 8));by_cases he:m % 8=n % 8
   ·rw [he];exact ako _ (I8 A k _ _ (by omega) (by omega) (by omega))
   ·exact aiF _ _ he (by omega) (by omega)
theorem IZ {A:Type} (x:A):∀ k n,(lnL A k n).get (lvE x k)=x
 | 0,_=>rfl
 | k+1,n=>by
   show (ln8 (lnL A k (n / 8)) (n % 8)).get (e8 (lvE x k))=x;rcases jO (n % 8) with h | h | h | h | h | h | h | ⟨m,h⟩<;>rw [h]<;>exact IZ x k _
structure Tr (α:Type) where
 n0:Lv (Option α) 1
 n1:Lv (Option α) 2
 n2:Lv (Option α) 3
 n3:Lv (Option α) 4
 n4:Lv (Option α) 5
 n5:Lv (Option α) 6
 n6:Lv (Option α) 7
 ov:Nat→Option α
noncomputable def Tr.lf {α:Type}:Tr α:=⟨lvE none 1,lvE none 2,lvE none 3,lvE none 4,lvE none 5,lvE none 6,lvE none 7,fun _=>none⟩
noncomputable instance {α:Type}:Inhabited (Tr α):=⟨.lf⟩
def lV {α:Type} (l:Ln (Lv (Option α) 1) (Option α)):Ln (Tr α) (Option α):=⟨fun t=>l.get t.n0,fun t v=>⟨l.put t.n0 v,t.n1,t.n2,t.n3,t.n4,t.n5,t.n6,t.ov⟩⟩
noncomputable def aeJ {α R:Type} (l:Lw (Lv (Option α) 1) (Option α) R):Lw (Tr α) (Option α) R:=⟨fun t v K=>Tr.rec (motive:=fun _=>Option α→(Tr α→R)→R) (fun n0 n1 n2 n3 n4 n5 n6 ov v K=>l.set n0 v fun x=>K ⟨x,n1,n2,n3,n4,n5,n6,ov⟩) t v K⟩
def lU {α:Type} (l:Ln (Lv (Option α) 2) (Option α)):Ln (Tr α) (Option α):=⟨fun t=>l.get t.n1,fun t v=>⟨t.n0,l.put t.n1 v,t.n2,t.n3,t.n4,t.n5,t.n6,t.ov⟩⟩
noncomputable def aeI {α R:Type} (l:Lw (Lv (Option α) 2) (Option α) R):Lw (Tr α) (Option α) R:=⟨fun t v K=>Tr.rec (motive:=fun _=>Option α→(Tr α→R)→R) (fun n0 n1 n2 n3 n4 n5 n6 ov v K=>l.set n1 v fun x=>K ⟨n0,x,n2,n3,n4,n5,n6,ov⟩) t v K⟩
def lT {α:Type} (l:Ln (Lv (Option α) 3) (Option α)):Ln (Tr α) (Option α):=⟨fun t=>l.get t.n2,fun t v=>⟨t.n0,t.n1,l.put t.n2 v,t.n3,t.n4,t.n5,t.n6,t.ov⟩⟩
noncomputable def aeH {α R:Type} (l:Lw (Lv (Option α) 3) (Option α) R):Lw (Tr α) (Option α) R:=⟨fun t v K=>Tr.rec (motive:=fun _=>Option α→(Tr α→R)→R) (fun n0 n1 n2 n3 n4 n5 n6 ov v K=>l.set n2 v fun x=>K ⟨n0,n1,x,n3,n4,n5,n6,ov⟩) t v K⟩
def lS {α:Type} (l:Ln (Lv (Option α) 4) (Option α)):Ln (Tr α) (Option α):=⟨fun t=>l.get t.n3,fun t v=>⟨t.n0,t.n1,t.n2,l.put t.n3 v,t.n4,t.n5,t.n6,t.ov⟩⟩
noncomputable def aeG {α R:Type} (l:Lw (Lv (Option α) 4) (Option α) R):Lw (Tr α) (Option α) R:=⟨fun t v K=>Tr.rec (motive:=fun _=>Option α→(Tr α→R)→R) (fun n0 n1 n2 n3 n4 n5 n6 ov v K=>l.set n3 v fun x=>K ⟨n0,n1,n2,x,n4,n5,n6,ov⟩) t v K⟩
def lQ {α:Type} (l:Ln (Lv (Option α) 5) (Option α)):Ln (Tr α) (Option α):=⟨fun t=>l.get t.n4,fun t v=>⟨t.n0,t.n1,t.n2,t.n3,l.put t.n4 v,t.n5,t.n6,t.ov⟩⟩
noncomputable def aeF {α R:Type} (l:Lw (Lv (Option α) 5) (Option α) R):Lw (Tr α) (Option α) R:=⟨fun t v K=>Tr.rec (motive:=fun _=>Option α→(Tr α→R)→R) (fun n0 n1 n2 n3 n4 n5 n6 ov v K=>l.set n4 v fun x=>K ⟨n0,n1,n2,n3,x,n5,n6,ov⟩) t v K⟩
def lN {α:Type} (l:Ln (Lv (Option α) 6) (Option α)):Ln (Tr α) (Option α):=⟨fun t=>l.get t.n5,fun t v=>⟨t.n0,t.n1,t.n2,t.n3,t.n4,l.put t.n5 v,t.n6,t.ov⟩⟩
noncomputable def aeE {α R:Type} (l:Lw (Lv (Option α) 6) (Option α) R):Lw (Tr α) (Option α) R:=⟨fun t v K=>Tr.rec (motive:=fun _=>Option α→(Tr α→R)→R) (fun n0 n1 n2 n3 n4 n5 n6 ov v K=>l.set n5 v fun x=>K ⟨n0,n1,n2,n3,n4,x,n6,ov⟩) t v K⟩
def lM {α:Type} (l:Ln (Lv (Option α) 7) (Option α)):Ln (Tr α) (Option α):=⟨fun t=>l.get t.n6,fun t v=>⟨t.n0,t.n1,t.n2,t.n3,t.n4,t.n5,l.put t.n6 v,t.ov⟩⟩
noncomputable def aeD {α R:Type} (l:Lw (Lv (Option α) 7) (Option α) R):Lw (Tr α) (Option α) R:=⟨fun t v K=>Tr.rec (motive:=fun _=>Option α→(Tr α→R)→R) (fun n0 n1 n2 n3 n4 n5 n6 ov v K=>l.set n6 v fun x=>K ⟨n0,n1,n2,n3,n4,n5,x,ov⟩) t v K⟩
def qH {α:Type} (n:Nat):Ln (Tr α) (Option α):=⟨fun t=>t.ov n,fun t v=>⟨t.n0,t.n1,t.n2,t.n3,t.n4,t.n5,t.n6,fun i=>cond (Nat.beq i n) v (t.ov i)⟩⟩
noncomputable def ahg {α R:Type} (n:Nat):Lw (Tr α) (Option α) R:=⟨fun t v K=>Tr.rec (motive:=fun _=>R) (fun n0 n1 n2 n3 n4 n5 n6 ov=>K ⟨n0,n1,n2,n3,n4,n5,n6,fun i=>cond (Nat.beq i n) v (ov i)⟩) t⟩
noncomputable def lnT (α:Type) (n:Nat):Ln (Tr α) (Option α):=
 Bool.rec (motive:=fun _=>Ln (Tr α) (Option α)) (Bool.rec (motive:=fun _=>Ln (Tr α) (Option α)) (Bool.rec (motive:=fun _=>Ln (Tr α) (Option α)) (Bool.rec (motive:=fun _=>Ln (Tr α) (Option α)) (Bool.rec (motive:=fun _=>Ln (Tr α) (Option α)) (Bool.rec (motive:=fun _=>Ln (Tr α) (Option α)) (Bool.rec (motive:=fun _=>Ln (Tr α) (Option α)) (qH n)
 (lM (lnL (Option α) 7 (Nat.sub n 299592))) (Nat.blt n 2396744))
 (lN (lnL (Option α) 6 (Nat.sub n 37448))) (Nat.blt n 299592))
 (lQ (lnL (Option α) 5 (Nat.sub n 4680))) (Nat.blt n 37448))
 (lS (lnL (Option α) 4 (Nat.sub n 584))) (Nat.blt n 4680))
 (lT (lnL (Option α) 3 (Nat.sub n 72))) (Nat.blt n 584))
 (lU (lnL (Option α) 2 (Nat.sub n 8))) (Nat.blt n 72))
 (lV (lnL (Option α) 1 (Nat.sub n 0))) (Nat.blt n 8)
noncomputable def lkT (α R:Type) (n:Nat):Lw (Tr α) (Option α) R:=
 Bool.rec (motive:=fun _=>Lw (Tr α) (Option α) R) (Bool.rec (motive:=fun _=>Lw (Tr α) (Option α) R) (Bool.rec (motive:=fun _=>Lw (Tr α) (Option α) R) (Bool.rec (motive:=fun _=>Lw (Tr α) (Option α) R) (Bool.rec (motive:=fun _=>Lw (Tr α) (Option α) R) (Bool.rec (motive:=fun _=>Lw (Tr α) (Option α) R) (Bool.rec (motive:=fun _=>Lw (Tr α) (Option α) R) (ahg n)
 (aeD (lkL (Option α) R 7 (Nat.sub n 299592))) (Nat.blt n 2396744))
 (aeE (lkL (Option α) R 6 (Nat.sub n 37448))) (Nat.blt n 299592))
 (aeF (lkL (Option α) R 5 (Nat.sub n 4680))) (Nat.blt n 37448))
 (aeG (lkL (Option α) R 4 (Nat.sub n 584))) (Nat.blt n 4680))
 (aeH (lkL (Option α) R 3 (Nat.sub n 72))) (Nat.blt n 584))
 (aeI (lkL (Option α) R 2 (Nat.sub n 8))) (Nat.blt n 72))
 (aeJ (lkL (Option α) R 1 (Nat.sub n 0))) (Nat.blt n 8)
inductive At (α:Type) (n:Nat):Nat→Prop
 | l0:0≤n→n<8→lnT α n=lV (lnL (Option α) 1 (n-0))→(∀ R,lkT α R n=aeJ (lkL (Option α) R 1 (n-0)))→At α n 0
 | l1:8≤n→n<72→lnT α n=lU (lnL (Option α) 2 (n-8))→(∀ R,lkT α R n=aeI (lkL (Option α) R 2 (n-8)))→At α n 1
 | l2:72≤n→n<584→lnT α n=lT (lnL (Option α) 3 (n-72))→(∀ R,lkT α R n=aeH (lkL (Option α) R 3 (n-72)))→At α n 2
 | l3:584≤n→n<4680→lnT α n=lS (lnL (Option α) 4 (n-584))→(∀ R,lkT α R n=aeG (lkL (Option α) R 4 (n-584)))→At α n 3
 | l4:4680≤n→n<37448→lnT α n=lQ (lnL (Option α) 5 (n-4680))→(∀ R,lkT α R n=aeF (lkL (Option α) R 5 (n-4680)))→At α n 4
 | l5:37448≤n→n<299592→lnT α n=lN (lnL (Option α) 6 (n-37448))→(∀ R,lkT α R n=aeE (lkL (Option α) R 6 (n-37448)))→At α n 5
 | l6:299592≤n→n<2396744→lnT α n=lM (lnL (Option α) 7 (n-299592))→(∀ R,lkT α R n=aeD (lkL (Option α) R 7 (n-299592)))→At α n 6
 | o:2396744≤n→lnT α n=qH n→(∀ R,lkT α R n=ahg n)→At α n 7
theorem iJ {a b:Nat}:Nat.blt a b=true↔a<b:=⟨Nat.le_of_ble_eq_true,fun h=>Nat.ble_eq_true_of_le h⟩
theorem at_ (α:Type) (n:Nat):∃ i,At α n i:=by
 cases h0:Nat.blt n 8 with
 | true=>exact ⟨0,.l0 (Nat.zero_le _) (iJ.1 h0) (by unfold lnT;rw [h0];rfl) (fun R=>by unfold lkT;rw [h0];rfl)⟩
 | false=>
   cases h1:Nat.blt n 72 with
   | true=>exact ⟨1,.l1 (by have:=mt iJ.2 (by rw [h0];simp);omega) (iJ.1 h1) (by unfold lnT;rw [h0,h1];rfl) (fun R=>by unfold lkT;rw [h0,h1];rfl)⟩
   | false=>
     cases h2:Nat.blt n 584 with
     | true=>exact ⟨2,.l2 (by have:=mt iJ.2 (by rw [h1];simp);omega) (iJ.1 h2) (by unfold lnT;rw [h0,h1,h2];rfl) (fun R=>by unfold lkT;rw [h0,h1,h2];rfl)⟩
     | false=>
       cases h3:Nat.blt n 4680 with
       | true=>exact ⟨3,.l3 (by have:=mt iJ.2 (by rw [h2];simp);omega) (iJ.1 h3) (by unfold lnT;rw [h0,h1,h2,h3];rfl) (fun R=>by unfold lkT;rw [h0,h1,h2,h3];rfl)⟩
       | false=>
         cases h4:Nat.blt n 37448 with
         | true=>exact ⟨4,.l4 (by have:=mt iJ.2 (by rw [h3];simp);omega) (iJ.1 h4) (by unfold lnT;rw [h0,h1,h2,h3,h4];rfl) (fun R=>by unfold lkT;rw [h0,h1,h2,h3,h4];rfl)⟩
         | false=>
           cases h5:Nat.blt n 299592 with
           | true=>exact ⟨5,.l5 (by have:=mt iJ.2 (by rw [h4];simp);omega) (iJ.1 h5) (by unfold lnT;rw [h0,h1,h2,h3,h4,h5];rfl) (fun R=>by unfold lkT;rw [h0,h1,h2,h3,h4,h5];rfl)⟩
           | false=>
             cases h6:Nat.blt n 2396744 with
             | true=>exact ⟨6,.l6 (by have:=mt iJ.2 (by rw [h5];simp);omega) (iJ.1 h6) (by unfold lnT;rw [h0,h1,h2,h3,h4,h5,h6];rfl) (fun R=>by unfold lkT;rw [h0,h1,h2,h3,h4,h5,h6];rfl)⟩
             | false=>
               exact ⟨7,.o (by have:=mt iJ.2 (by rw [h6];simp);omega) (by unfold lnT;rw [h0,h1,h2,h3,h4,h5,h6]) (fun R=>by unfold lkT;rw [h0,h1,h2,h3,h4,h5,h6])⟩
theorem aj0 {α:Type} {l:Ln (Lv (Option α) 1) (Option α)} (h:l.Ok):(lV l).Ok:=⟨fun t v=>h.gp t.n0 v⟩
theorem aj9 {α R:Type} {k:Lw (Lv (Option α) 1) (Option α) R} {l:Ln (Lv (Option α) 1) (Option α)} (h:k.Of l):(aeJ k).Of (lV l):=fun t v K=>h t.n0 v _
theorem aiE {α:Type} {l l':Ln (Lv (Option α) 1) (Option α)} (h:l.Dis l'):(lV l).Dis (lV l'):=fun t v=>h t.n0 v
theorem aki {α:Type} {l:Ln (Lv (Option α) 1) (Option α)} (h:l.get (lvE none 1)=none):(lV l).get .lf=none:=h
theorem ajZ {α:Type} {l:Ln (Lv (Option α) 2) (Option α)} (h:l.Ok):(lU l).Ok:=⟨fun t v=>h.gp t.n1 v⟩
theorem aj8 {α R:Type} {k:Lw (Lv (Option α) 2) (Option α) R} {l:Ln (Lv (Option α) 2) (Option α)} (h:k.Of l):(aeI k).Of (lU l):=fun t v K=>h t.n1 v _
theorem aiD {α:Type} {l l':Ln (Lv (Option α) 2) (Option α)} (h:l.Dis l'):(lU l).Dis (lU l'):=fun t v=>h t.n1 v
theorem akh {α:Type} {l:Ln (Lv (Option α) 2) (Option α)} (h:l.get (lvE none 2)=none):(lU l).get .lf=none:=h
theorem ajY {α:Type} {l:Ln (Lv (Option α) 3) (Option α)} (h:l.Ok):(lT l).Ok:=⟨fun t v=>h.gp t.n2 v⟩
theorem aj7 {α R:Type} {k:Lw (Lv (Option α) 3) (Option α) R} {l:Ln (Lv (Option α) 3) (Option α)} (h:k.Of l):(aeH k).Of (lT l):=fun t v K=>h t.n2 v _
theorem aiC {α:Type} {l l':Ln (Lv (Option α) 3) (Option α)} (h:l.Dis l'):(lT l).Dis (lT l'):=fun t v=>h t.n2 v
theorem akg {α:Type} {l:Ln (Lv (Option α) 3) (Option α)} (h:l.get (lvE none 3)=none):(lT l).get .lf=none:=h
theorem ajX {α:Type} {l:Ln (Lv (Option α) 4) (Option α)} (h:l.Ok):(lS l).Ok:=⟨fun t v=>h.gp t.n3 v⟩
theorem aj6 {α R:Type} {k:Lw (Lv (Option α) 4) (Option α) R} {l:Ln (Lv (Option α) 4) (Option α)} (h:k.Of l):(aeG k).Of (lS l):=fun t v K=>h t.n3 v _
theorem aiB {α:Type} {l l':Ln (Lv (Option α) 4) (Option α)} (h:l.Dis l'):(lS l).Dis (lS l'):=fun t v=>h t.n3 v
theorem akf {α:Type} {l:Ln (Lv (Option α) 4) (Option α)} (h:l.get (lvE none 4)=none):(lS l).get .lf=none:=h
theorem ajW {α:Type} {l:Ln (Lv (Option α) 5) (Option α)} (h:l.Ok):(lQ l).Ok:=⟨fun t v=>h.gp t.n4 v⟩
theorem aj3 {α R:Type} {k:Lw (Lv (Option α) 5) (Option α) R} {l:Ln (Lv (Option α) 5) (Option α)} (h:k.Of l):(aeF k).Of (lQ l):=fun t v K=>h t.n4 v _
theorem aiA {α:Type} {l l':Ln (Lv (Option α) 5) (Option α)} (h:l.Dis l'):(lQ l).Dis (lQ l'):=fun t v=>h t.n4 v
theorem ake {α:Type} {l:Ln (Lv (Option α) 5) (Option α)} (h:l.get (lvE none 5)=none):(lQ l).get .lf=none:=h
theorem ajV {α:Type} {l:Ln (Lv (Option α) 6) (Option α)} (h:l.Ok):(lN l).Ok:=⟨fun t v=>h.gp t.n5 v⟩
theorem aj2 {α R:Type} {k:Lw (Lv (Option α) 6) (Option α) R} {l:Ln (Lv (Option α) 6) (Option α)} (h:k.Of l):(aeE k).Of (lN l):=fun t v K=>h t.n5 v _
theorem aiz {α:Type} {l l':Ln (Lv (Option α) 6) (Option α)} (h:l.Dis l'):(lN l).Dis (lN l'):=fun t v=>h t.n5 v
theorem akd {α:Type} {l:Ln (Lv (Option α) 6) (Option α)} (h:l.get (lvE none 6)=none):(lN l).get .lf=none:=h
theorem ajU {α:Type} {l:Ln (Lv (Option α) 7) (Option α)} (h:l.Ok):(lM l).Ok:=⟨fun t v=>h.gp t.n6 v⟩
theorem aj1 {α R:Type} {k:Lw (Lv (Option α) 7) (Option α) R} {l:Ln (Lv (Option α) 7) (Option α)} (h:k.Of l):(aeD k).Of (lM l):=fun t v K=>h t.n6 v _
theorem aiy {α:Type} {l l':Ln (Lv (Option α) 7) (Option α)} (h:l.Dis l'):(lM l).Dis (lM l'):=fun t v=>h t.n6 v
theorem akc {α:Type} {l:Ln (Lv (Option α) 7) (Option α)} (h:l.get (lvE none 7)=none):(lM l).get .lf=none:=h
theorem ags {α:Type} {x:Ln (Lv (Option α) 1) (Option α)} {y:Ln (Lv (Option α) 2) (Option α)}:(lV x).Dis (lU y):=fun _ _=>rfl
theorem agr {α:Type} {x:Ln (Lv (Option α) 1) (Option α)} {y:Ln (Lv (Option α) 3) (Option α)}:(lV x).Dis (lT y):=fun _ _=>rfl
theorem agq {α:Type} {x:Ln (Lv (Option α) 1) (Option α)} {y:Ln (Lv (Option α) 4) (Option α)}:(lV x).Dis (lS y):=fun _ _=>rfl
theorem agp {α:Type} {x:Ln (Lv (Option α) 1) (Option α)} {y:Ln (Lv (Option α) 5) (Option α)}:(lV x).Dis (lQ y):=fun _ _=>rfl
theorem agn {α:Type} {x:Ln (Lv (Option α) 1) (Option α)} {y:Ln (Lv (Option α) 6) (Option α)}:(lV x).Dis (lN y):=fun _ _=>rfl
theorem agm {α:Type} {x:Ln (Lv (Option α) 1) (Option α)} {y:Ln (Lv (Option α) 7) (Option α)}:(lV x).Dis (lM y):=fun _ _=>rfl
theorem agl {α:Type} {x:Ln (Lv (Option α) 1) (Option α)} {y:Nat}:(lV x).Dis ((qH y:Ln (Tr α) (Option α))):=fun _ _=>rfl
theorem agk {α:Type} {x:Ln (Lv (Option α) 2) (Option α)} {y:Ln (Lv (Option α) 1) (Option α)}:(lU x).Dis (lV y):=fun _ _=>rfl
theorem agj {α:Type} {x:Ln (Lv (Option α) 2) (Option α)} {y:Ln (Lv (Option α) 3) (Option α)}:(lU x).Dis (lT y):=fun _ _=>rfl
theorem agi {α:Type} {x:Ln (Lv (Option α) 2) (Option α)} {y:Ln (Lv (Option α) 4) (Option α)}:(lU x).Dis (lS y):=fun _ _=>rfl
theorem agh {α:Type} {x:Ln (Lv (Option α) 2) (Option α)} {y:Ln (Lv (Option α) 5) (Option α)}:(lU x).Dis (lQ y):=fun _ _=>rfl
theorem agf {α:Type} {x:Ln (Lv (Option α) 2) (Option α)} {y:Ln (Lv (Option α) 6) (Option α)}:(lU x).Dis (lN y):=fun _ _=>rfl
theorem agd {α:Type} {x:Ln (Lv (Option α) 2) (Option α)} {y:Ln (Lv (Option α) 7) (Option α)}:(lU x).Dis (lM y):=fun _ _=>rfl
theorem agc {α:Type} {x:Ln (Lv (Option α) 2) (Option α)} {y:Nat}:(lU x).Dis ((qH y:Ln (Tr α) (Option α))):=fun _ _=>rfl
theorem agb {α:Type} {x:Ln (Lv (Option α) 3) (Option α)} {y:Ln (Lv (Option α) 1) (Option α)}:(lT x).Dis (lV y):=fun _ _=>rfl
theorem aga {α:Type} {x:Ln (Lv (Option α) 3) (Option α)} {y:Ln (Lv (Option α) 2) (Option α)}:(lT x).Dis (lU y):=fun _ _=>rfl
theorem af9 {α:Type} {x:Ln (Lv (Option α) 3) (Option α)} {y:Ln (Lv (Option α) 4) (Option α)}:(lT x).Dis (lS y):=fun _ _=>rfl
theorem af8 {α:Type} {x:Ln (Lv (Option α) 3) (Option α)} {y:Ln (Lv (Option α) 5) (Option α)}:(lT x).Dis (lQ y):=fun _ _=>rfl
theorem af7 {α:Type} {x:Ln (Lv (Option α) 3) (Option α)} {y:Ln (Lv (Option α) 6) (Option α)}:(lT x).Dis (lN y):=fun _ _=>rfl
theorem af6 {α:Type} {x:Ln (Lv (Option α) 3) (Option α)} {y:Ln (Lv (Option α) 7) (Option α)}:(lT x).Dis (lM y):=fun _ _=>rfl
theorem af5 {α:Type} {x:Ln (Lv (Option α) 3) (Option α)} {y:Nat}:(lT x).Dis ((qH y:Ln (Tr α) (Option α))):=fun _ _=>rfl
theorem af4 {α:Type} {x:Ln (Lv (Option α) 4) (Option α)} {y:Ln (Lv (Option α) 1) (Option α)}:(lS x).Dis (lV y):=fun _ _=>rfl
theorem af2 {α:Type} {x:Ln (Lv (Option α) 4) (Option α)} {y:Ln (Lv (Option α) 2) (Option α)}:(lS x).Dis (lU y):=fun _ _=>rfl
theorem af0 {α:Type} {x:Ln (Lv (Option α) 4) (Option α)} {y:Ln (Lv (Option α) 3) (Option α)}:(lS x).Dis (lT y):=fun _ _=>rfl
theorem afZ {α:Type} {x:Ln (Lv (Option α) 4) (Option α)} {y:Ln (Lv (Option α) 5) (Option α)}:(lS x).Dis (lQ y):=fun _ _=>rfl
theorem afY {α:Type} {x:Ln (Lv (Option α) 4) (Option α)} {y:Ln (Lv (Option α) 6) (Option α)}:(lS x).Dis (lN y):=fun _ _=>rfl
theorem afX {α:Type} {x:Ln (Lv (Option α) 4) (Option α)} {y:Ln (Lv (Option α) 7) (Option α)}:(lS x).Dis (lM y):=fun _ _=>rfl
theorem afW {α:Type} {x:Ln (Lv (Option α) 4) (Option α)} {y:Nat}:(lS x).Dis ((qH y:Ln (Tr α) (Option α))):=fun _ _=>rfl
theorem afV {α:Type} {x:Ln (Lv (Option α) 5) (Option α)} {y:Ln (Lv (Option α) 1) (Option α)}:(lQ x).Dis (lV y):=fun _ _=>rfl
theorem afU {α:Type} {x:Ln (Lv (Option α) 5) (Option α)} {y:Ln (Lv (Option α) 2) (Option α)}:(lQ x).Dis (lU y):=fun _ _=>rfl
theorem afT {α:Type} {x:Ln (Lv (Option α) 5) (Option α)} {y:Ln (Lv (Option α) 3) (Option α)}:(lQ x).Dis (lT y):=fun _ _=>rfl
theorem afS {α:Type} {x:Ln (Lv (Option α) 5) (Option α)} {y:Ln (Lv (Option α) 4) (Option α)}:(lQ x).Dis (lS y):=fun _ _=>rfl
theorem afR {α:Type} {x:Ln (Lv (Option α) 5) (Option α)} {y:Ln (Lv (Option α) 6) (Option α)}:(lQ x).Dis (lN y):=fun _ _=>rfl
theorem afQ {α:Type} {x:Ln (Lv (Option α) 5) (Option α)} {y:Ln (Lv (Option α) 7) (Option α)}:(lQ x).Dis (lM y):=fun _ _=>rfl
theorem afP {α:Type} {x:Ln (Lv (Option α) 5) (Option α)} {y:Nat}:(lQ x).Dis ((qH y:Ln (Tr α) (Option α))):=fun _ _=>rfl
theorem afO {α:Type} {x:Ln (Lv (Option α) 6) (Option α)} {y:Ln (Lv (Option α) 1) (Option α)}:(lN x).Dis (lV y):=fun _ _=>rfl
theorem afN {α:Type} {x:Ln (Lv (Option α) 6) (Option α)} {y:Ln (Lv (Option α) 2) (Option α)}:(lN x).Dis (lU y):=fun _ _=>rfl
theorem afM {α:Type} {x:Ln (Lv (Option α) 6) (Option α)} {y:Ln (Lv (Option α) 3) (Option α)}:(lN x).Dis (lT y):=fun _ _=>rfl
theorem afL {α:Type} {x:Ln (Lv (Option α) 6) (Option α)} {y:Ln (Lv (Option α) 4) (Option α)}:(lN x).Dis (lS y):=fun _ _=>rfl
theorem afK {α:Type} {x:Ln (Lv (Option α) 6) (Option α)} {y:Ln (Lv (Option α) 5) (Option α)}:(lN x).Dis (lQ y):=fun _ _=>rfl
theorem afJ {α:Type} {x:Ln (Lv (Option α) 6) (Option α)} {y:Ln (Lv (Option α) 7) (Option α)}:(lN x).Dis (lM y):=fun _ _=>rfl
theorem afI {α:Type} {x:Ln (Lv (Option α) 6) (Option α)} {y:Nat}:(lN x).Dis ((qH y:Ln (Tr α) (Option α))):=fun _ _=>rfl
theorem afH {α:Type} {x:Ln (Lv (Option α) 7) (Option α)} {y:Ln (Lv (Option α) 1) (Option α)}:(lM x).Dis (lV y):=fun _ _=>rfl
theorem afG {α:Type} {x:Ln (Lv (Option α) 7) (Option α)} {y:Ln (Lv (Option α) 2) (Option α)}:(lM x).Dis (lU y):=fun _ _=>rfl
theorem afF {α:Type} {x:Ln (Lv (Option α) 7) (Option α)} {y:Ln (Lv (Option α) 3) (Option α)}:(lM x).Dis (lT y):=fun _ _=>rfl
theorem afE {α:Type} {x:Ln (Lv (Option α) 7) (Option α)} {y:Ln (Lv (Option α) 4) (Option α)}:(lM x).Dis (lS y):=fun _ _=>rfl
theorem afD {α:Type} {x:Ln (Lv (Option α) 7) (Option α)} {y:Ln (Lv (Option α) 5) (Option α)}:(lM x).Dis (lQ y):=fun _ _=>rfl
theorem afC {α:Type} {x:Ln (Lv (Option α) 7) (Option α)} {y:Ln (Lv (Option α) 6) (Option α)}:(lM x).Dis (lN y):=fun _ _=>rfl
theorem afB {α:Type} {x:Ln (Lv (Option α) 7) (Option α)} {y:Nat}:(lM x).Dis ((qH y:Ln (Tr α) (Option α))):=fun _ _=>rfl
theorem afA {α:Type} {x:Nat} {y:Ln (Lv (Option α) 1) (Option α)}:((qH x:Ln (Tr α) (Option α))).Dis (lV y):=fun _ _=>rfl
theorem afz {α:Type} {x:Nat} {y:Ln (Lv (Option α) 2) (Option α)}:((qH x:Ln (Tr α) (Option α))).Dis (lU y):=fun _ _=>rfl
theorem afy {α:Type} {x:Nat} {y:Ln (Lv (Option α) 3) (Option α)}:((qH x:Ln (Tr α) (Option α))).Dis (lT y):=fun _ _=>rfl
theorem afx {α:Type} {x:Nat} {y:Ln (Lv (Option α) 4) (Option α)}:((qH x:Ln (Tr α) (Option α))).Dis (lS y):=fun _ _=>rfl
theorem afw {α:Type} {x:Nat} {y:Ln (Lv (Option α) 5) (Option α)}:((qH x:Ln (Tr α) (Option α))).Dis (lQ y):=fun _ _=>rfl
theorem afv {α:Type} {x:Nat} {y:Ln (Lv (Option α) 6) (Option α)}:((qH x:Ln (Tr α) (Option α))).Dis (lN y):=fun _ _=>rfl
theorem afu {α:Type} {x:Nat} {y:Ln (Lv (Option α) 7) (Option α)}:((qH x:Ln (Tr α) (Option α))).Dis (lM y):=fun _ _=>rfl
theorem okT (α:Type) (n:Nat):(lnT α n).Ok:=by
 obtain ⟨i,h⟩:=at_ α n;cases h with
 | l0 _ _ e _=>rw [e];exact aj0 (okL (Option α) 1 (n-0))
 | l1 _ _ e _=>rw [e];exact ajZ (okL (Option α) 2 (n-8))
 | l2 _ _ e _=>rw [e];exact ajY (okL (Option α) 3 (n-72))
 | l3 _ _ e _=>rw [e];exact ajX (okL (Option α) 4 (n-584))
 | l4 _ _ e _=>rw [e];exact ajW (okL (Option α) 5 (n-4680))
 | l5 _ _ e _=>rw [e];exact ajV (okL (Option α) 6 (n-37448))
 | l6 _ _ e _=>rw [e];exact ajU (okL (Option α) 7 (n-299592))
 | o _ e _=>rw [e];exact ⟨fun t v=>by show cond (Nat.beq n n) v _=v;rw [Nat.beq_refl];rfl⟩
theorem ofT (α R:Type) (n:Nat):(lkT α R n).Of (lnT α n):=by
 obtain ⟨i,h⟩:=at_ α n;cases h with
 | l0 _ _ e e'=>rw [e,e'];exact aj9 (ofL (Option α) R 1 (n-0))
 | l1 _ _ e e'=>rw [e,e'];exact aj8 (ofL (Option α) R 2 (n-8))
 | l2 _ _ e e'=>rw [e,e'];exact aj7 (ofL (Option α) R 3 (n-72))
 | l3 _ _ e e'=>rw [e,e'];exact aj6 (ofL (Option α) R 4 (n-584))
 | l4 _ _ e e'=>rw [e,e'];exact aj3 (ofL (Option α) R 5 (n-4680))
 | l5 _ _ e e'=>rw [e,e'];exact aj2 (ofL (Option α) R 6 (n-37448))
 | l6 _ _ e e'=>rw [e,e'];exact aj1 (ofL (Option α) R 7 (n-299592))
 | o _ e e'=>rw [e,e'];exact fun t v K=>rfl
theorem akn (α:Type) {m n:Nat} (hmn:m≠n):(lnT α m).Dis (lnT α n):=by
 obtain ⟨i,h⟩:=at_ α m;obtain ⟨j,h'⟩:=at_ α n;cases h with
 | l0 a1 a2 e _=>
   rw [e];cases h' with
   | l0 b1 b2 e2 _=>rw [e2];exact aiE (I8 (Option α) 1 (m-0) (n-0) (by omega) (by omega) (by omega))
   | l1 b1 b2 e2 _=>rw [e2];exact ags
   | l2 b1 b2 e2 _=>rw [e2];exact agr
   | l3 b1 b2 e2 _=>rw [e2];exact agq
   | l4 b1 b2 e2 _=>rw [e2];exact agp
   | l5 b1 b2 e2 _=>rw [e2];exact agn
   | l6 b1 b2 e2 _=>rw [e2];exact agm
   | o b1 e2 _=>rw [e2];exact agl
 | l1 a1 a2 e _=>
   rw [e];cases h' with
   | l0 b1 b2 e2 _=>rw [e2];exact agk
   | l1 b1 b2 e2 _=>rw [e2];exact aiD (I8 (Option α) 2 (m-8) (n-8) (by omega) (by omega) (by omega))
   | l2 b1 b2 e2 _=>rw [e2];exact agj
   | l3 b1 b2 e2 _=>rw [e2];exact agi
   | l4 b1 b2 e2 _=>rw [e2];exact agh
   | l5 b1 b2 e2 _=>rw [e2];exact agf
   | l6 b1 b2 e2 _=>rw [e2];exact agd
   | o b1 e2 _=>rw [e2];exact agc
 | l2 a1 a2 e _=>
   rw [e];cases h' with
   | l0 b1 b2 e2 _=>rw [e2];exact agb
   | l1 b1 b2 e2 _=>rw [e2];exact aga
   | l2 b1 b2 e2 _=>rw [e2];exact aiC (I8 (Option α) 3 (m-72) (n-72) (by omega) (by omega) (by omega))
   | l3 b1 b2 e2 _=>rw [e2];exact af9
   | l4 b1 b2 e2 _=>rw [e2];exact af8
   | l5 b1 b2 e2 _=>rw [e2];exact af7
   | l6 b1 b2 e2 _=>rw [e2];exact af6
   | o b1 e2 _=>rw [e2];exact af5
 | l3 a1 a2 e _=>
   rw [e];cases h' with
   | l0 b1 b2 e2 _=>rw [e2];exact af4
   | l1 b1 b2 e2 _=>rw [e2];exact af2
   | l2 b1 b2 e2 _=>rw [e2];exact af0
   | l3 b1 b2 e2 _=>rw [e2];exact aiB (I8 (Option α) 4 (m-584) (n-584) (by omega) (by omega) (by omega))
   | l4 b1 b2 e2 _=>rw [e2];exact afZ
   | l5 b1 b2 e2 _=>rw [e2];exact afY
   | l6 b1 b2 e2 _=>rw [e2];exact afX
   | o b1 e2 _=>rw [e2];exact afW
 | l4 a1 a2 e _=>
   rw [e];cases h' with
   | l0 b1 b2 e2 _=>rw [e2];exact afV
   | l1 b1 b2 e2 _=>rw [e2];exact afU
   | l2 b1 b2 e2 _=>rw [e2];exact afT
   | l3 b1 b2 e2 _=>rw [e2];exact afS
   | l4 b1 b2 e2 _=>rw [e2];exact aiA (I8 (Option α) 5 (m-4680) (n-4680) (by omega) (by omega) (by omega))
   | l5 b1 b2 e2 _=>rw [e2];exact afR
   | l6 b1 b2 e2 _=>rw [e2];exact afQ
   | o b1 e2 _=>rw [e2];exact afP
 | l5 a1 a2 e _=>
   rw [e];cases h' with
   | l0 b1 b2 e2 _=>rw [e2];exact afO
   | l1 b1 b2 e2 _=>rw [e2];exact afN
   | l2 b1 b2 e2 _=>rw [e2];exact afM
   | l3 b1 b2 e2 _=>rw [e2];exact afL
   | l4 b1 b2 e2 _=>rw [e2];exact afK
   | l5 b1 b2 e2 _=>rw [e2];exact aiz (I8 (Option α) 6 (m-37448) (n-37448) (by omega) (by omega) (by omega))
   | l6 b1 b2 e2 _=>rw [e2];exact afJ
   | o b1 e2 _=>rw [e2];exact afI
 | l6 a1 a2 e _=>
   rw [e];cases h' with
   | l0 b1 b2 e2 _=>rw [e2];exact afH
   | l1 b1 b2 e2 _=>rw [e2];exact afG
   | l2 b1 b2 e2 _=>rw [e2];exact afF
   | l3 b1 b2 e2 _=>rw [e2];exact afE
   | l4 b1 b2 e2 _=>rw [e2];exact afD
   | l5 b1 b2 e2 _=>rw [e2];exact afC
   | l6 b1 b2 e2 _=>rw [e2];exact aiy (I8 (Option α) 7 (m-299592) (n-299592) (by omega) (by omega) (by omega))
   | o b1 e2 _=>rw [e2];exact afB
 | o a1 e _=>
   rw [e];cases h' with
   | l0 b1 b2 e2 _=>rw [e2];exact afA
   | l1 b1 b2 e2 _=>rw [e2];exact afz
   | l2 b1 b2 e2 _=>rw [e2];exact afy
   | l3 b1 b2 e2 _=>rw [e2];exact afx
   | l4 b1 b2 e2 _=>rw [e2];exact afw
   | l5 b1 b2 e2 _=>rw [e2];exact afv
   | l6 b1 b2 e2 _=>rw [e2];exact afu
   | o b1 e2 _=>rw [e2];exact fun t v=>by show cond (Nat.beq m n) v _=_;rw [show Nat.beq m n=false from Bool.eq_false_iff.2 fun h=>hmn (Nat.eq_of_beq_eq_true h)];rfl
theorem lfT (α:Type) (n:Nat):(lnT α n).get (.lf:Tr α)=none:=by
 obtain ⟨i,h⟩:=at_ α n;cases h with
 | l0 _ _ e _=>rw [e];exact aki (IZ none 1 (n-0))
 | l1 _ _ e _=>rw [e];exact akh (IZ none 2 (n-8))
 | l2 _ _ e _=>rw [e];exact akg (IZ none 3 (n-72))
 | l3 _ _ e _=>rw [e];exact akf (IZ none 4 (n-584))
 | l4 _ _ e _=>rw [e];exact ake (IZ none 5 (n-4680))
 | l5 _ _ e _=>rw [e];exact akd (IZ none 6 (n-37448))
 | l6 _ _ e _=>rw [e];exact akc (IZ none 7 (n-299592))
 | o _ e _=>rw [e];rfl
noncomputable def B.get {α:Type} (k:B) (t:Tr α):Option α:=(lnT α k.n).get t
noncomputable def B.put {α:Type} (k:B) (t:Tr α) (v:Option α):Tr α:=(lnT α k.n).put t v
noncomputable def B.jv {α R:Type} (k:B) (t:Tr α) (v:Option α) (K:Tr α→R):R:=(lkT α R k.n).set t v K
def EW (k:B):Nat:=k.n
noncomputable def B.XZ {R:Type} (k:B) (K:B→R):R:=Nat.rec (motive:=fun _=>(B→R)→R) (fun K=>K ⟨0⟩) (fun p _ K=>K ⟨Nat.succ p⟩) (Nat.add k.n 1) K
def bOf (n:Nat):B:=⟨n⟩
end Go.Sim
