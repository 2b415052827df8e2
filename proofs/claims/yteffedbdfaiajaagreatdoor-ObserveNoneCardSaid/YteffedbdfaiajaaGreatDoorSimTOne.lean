/- Sim: keys and tries, made for evaluation by the kernel. (Printed by a program, gent.py.) -/
import Derived.Test.YteffedbdfaiajaaGreatDoorAbsO3And
set_option linter.unusedVariables false
set_option linter.unusedSimpArgs false
set_option linter.all false
namespace Go.Sim
structure B where
 n:Nat
 deriving Inhabited,DecidableEq
structure N8 (α:Type) where
 a:α
 b:α
 c:α
 d:α
 e:α
 f:α
 g:α
 h:α
structure Ln (S A:Type) where
 get:S→A
 put:S→A→S
structure Lw (S A R:Type) where
 set:S→A→(S→R)→R
def Ln.id (A:Type):Ln A A:=⟨fun t=>t,fun _ v=>v⟩
def Lw.id (A R:Type):Lw A A R:=⟨fun _ v K=>K v⟩
noncomputable def ln8 {S A:Type} (l:Ln S A) (i:Nat):Ln (N8 S) A:=
 Bool.rec (motive:=fun _=>Ln (N8 S) A) (Bool.rec (motive:=fun _=>Ln (N8 S) A) (Bool.rec (motive:=fun _=>Ln (N8 S) A) (Bool.rec (motive:=fun _=>Ln (N8 S) A) (Bool.rec (motive:=fun _=>Ln (N8 S) A) (Bool.rec (motive:=fun _=>Ln (N8 S) A) (Bool.rec (motive:=fun _=>Ln (N8 S) A) (⟨fun t=>l.get t.h,fun t v=>⟨t.a,t.b,t.c,t.d,t.e,t.f,t.g,l.put t.h v⟩⟩)
 ⟨fun t=>l.get t.g,fun t v=>⟨t.a,t.b,t.c,t.d,t.e,t.f,l.put t.g v,t.h⟩⟩ (Nat.beq i 6))
 ⟨fun t=>l.get t.f,fun t v=>⟨t.a,t.b,t.c,t.d,t.e,l.put t.f v,t.g,t.h⟩⟩ (Nat.beq i 5))
 ⟨fun t=>l.get t.e,fun t v=>⟨t.a,t.b,t.c,t.d,l.put t.e v,t.f,t.g,t.h⟩⟩ (Nat.beq i 4))
 ⟨fun t=>l.get t.d,fun t v=>⟨t.a,t.b,t.c,l.put t.d v,t.e,t.f,t.g,t.h⟩⟩ (Nat.beq i 3))
 ⟨fun t=>l.get t.c,fun t v=>⟨t.a,t.b,l.put t.c v,t.d,t.e,t.f,t.g,t.h⟩⟩ (Nat.beq i 2))
 ⟨fun t=>l.get t.b,fun t v=>⟨t.a,l.put t.b v,t.c,t.d,t.e,t.f,t.g,t.h⟩⟩ (Nat.beq i 1))
 ⟨fun t=>l.get t.a,fun t v=>⟨l.put t.a v,t.b,t.c,t.d,t.e,t.f,t.g,t.h⟩⟩ (Nat.beq i 0)
noncomputable def lk8 {S A R:Type} (l:Lw S A R) (i:Nat):Lw (N8 S) A R:=
 Bool.rec (motive:=fun _=>Lw (N8 S) A R) (Bool.rec (motive:=fun _=>Lw (N8 S) A R) (Bool.rec (motive:=fun _=>Lw (N8 S) A R) (Bool.rec (motive:=fun _=>Lw (N8 S) A R) (Bool.rec (motive:=fun _=>Lw (N8 S) A R) (Bool.rec (motive:=fun _=>Lw (N8 S) A R) (Bool.rec (motive:=fun _=>Lw (N8 S) A R) (⟨fun t v K=>N8.rec (motive:=fun _=>A→(N8 S→R)→R) (fun a b c d e f g h v K=>l.set h v fun x=>K ⟨a,b,c,d,e,f,g,x⟩) t v K⟩)
 ⟨fun t v K=>N8.rec (motive:=fun _=>A→(N8 S→R)→R) (fun a b c d e f g h v K=>l.set g v fun x=>K ⟨a,b,c,d,e,f,x,h⟩) t v K⟩ (Nat.beq i 6))
 ⟨fun t v K=>N8.rec (motive:=fun _=>A→(N8 S→R)→R) (fun a b c d e f g h v K=>l.set f v fun x=>K ⟨a,b,c,d,e,x,g,h⟩) t v K⟩ (Nat.beq i 5))
 ⟨fun t v K=>N8.rec (motive:=fun _=>A→(N8 S→R)→R) (fun a b c d e f g h v K=>l.set e v fun x=>K ⟨a,b,c,d,x,f,g,h⟩) t v K⟩ (Nat.beq i 4))
 ⟨fun t v K=>N8.rec (motive:=fun _=>A→(N8 S→R)→R) (fun a b c d e f g h v K=>l.set d v fun x=>K ⟨a,b,c,x,e,f,g,h⟩) t v K⟩ (Nat.beq i 3))
 ⟨fun t v K=>N8.rec (motive:=fun _=>A→(N8 S→R)→R) (fun a b c d e f g h v K=>l.set c v fun x=>K ⟨a,b,x,d,e,f,g,h⟩) t v K⟩ (Nat.beq i 2))
 ⟨fun t v K=>N8.rec (motive:=fun _=>A→(N8 S→R)→R) (fun a b c d e f g h v K=>l.set b v fun x=>K ⟨a,x,c,d,e,f,g,h⟩) t v K⟩ (Nat.beq i 1))
 ⟨fun t v K=>N8.rec (motive:=fun _=>A→(N8 S→R)→R) (fun a b c d e f g h v K=>l.set a v fun x=>K ⟨x,b,c,d,e,f,g,h⟩) t v K⟩ (Nat.beq i 0)
theorem iF (i:Nat):i=0∨i=1∨i=2∨i=3∨i=4∨i=5∨i=6∨(∃ m,i=m+7):=by
 rcases i with _ | _ | _ | _ | _ | _ | _ | m
 all_goals simp
structure Ln.Ok {S A:Type} (l:Ln S A):Prop where
 gp:∀ t v,l.get (l.put t v)=v
def Ln.Dis {S A B:Type} (l:Ln S A) (l':Ln S B):Prop:=∀ t v,l.get (l'.put t v)=l.get t
def Lw.Of {S A R:Type} (k:Lw S A R) (l:Ln S A):Prop:=∀ t v K,k.set t v K=K (l.put t v)
theorem ok8 {S A:Type} {l:Ln S A} (h:l.Ok) (i:Nat):(ln8 l i).Ok:=by
 rcases iF i with rfl | rfl | rfl | rfl | rfl | rfl | rfl | ⟨m,rfl⟩<;>exact ⟨fun t v=>h.gp _ v⟩
theorem of8 {S A R:Type} {k:Lw S A R} {l:Ln S A} (h:k.Of l) (i:Nat):(lk8 k i).Of (ln8 l i):=by
 rcases iF i with rfl | rfl | rfl | rfl | rfl | rfl | rfl | ⟨m,rfl⟩<;>exact fun t v K=>h _ v _
theorem aeN {S A B:Type} {l:Ln S A} {l':Ln S B} (i:Nat) (h:l.Dis l'):(ln8 l i).Dis (ln8 l' i):=by
 rcases iF i with rfl | rfl | rfl | rfl | rfl | rfl | rfl | ⟨m,rfl⟩<;>exact fun t v=>h _ v
theorem acW {S A B:Type} (l:Ln S A) (l':Ln S B) {i j:Nat} (h:i≠j) (hi:i<8) (hj:j<8):(ln8 l i).Dis (ln8 l' j):=by
 rcases iF i with rfl | rfl | rfl | rfl | rfl | rfl | rfl | ⟨m,rfl⟩<;>rcases iF j with rfl | rfl | rfl | rfl | rfl | rfl | rfl | ⟨m',rfl⟩ <;>
  first | exact fun t v=>rfl | exact absurd rfl h | omega
def Lv (A:Type):Nat→Type
 | 0=>A
 | k+1=>N8 (Lv A k)
noncomputable def e8 {S:Type} (x:S):N8 S:=⟨x,x,x,x,x,x,x,x⟩
noncomputable def lvE {A:Type} (x:A) (k:Nat):Lv A k:=Nat.rec (motive:=fun k=>Lv A k) x (fun _ ih=>e8 ih) k
noncomputable def lnL (A:Type) (k:Nat):Nat→Ln (Lv A k) A:=
 Nat.rec (motive:=fun k=>Nat→Ln (Lv A k) A) (fun _=>Ln.id A) (fun _ ih n=>ln8 (ih (Nat.div n 8)) (Nat.mod n 8)) k
noncomputable def lkL (A R:Type) (k:Nat):Nat→Lw (Lv A k) A R:=
 Nat.rec (motive:=fun k=>Nat→Lw (Lv A k) A R) (fun _=>Lw.id A R) (fun _ ih n=>lk8 (ih (Nat.div n 8)) (Nat.mod n 8)) k
theorem okL (A:Type):∀ k n,(lnL A k n).Ok
 | 0,_=>⟨fun _ _=>rfl⟩
 | k+1,n=>ok8 (okL A k (n / 8)) (n % 8)
theorem ofL (A R:Type):∀ k n,(lkL A R k n).Of (lnL A k n)
 | 0,_=>fun _ _ _=>rfl
 | k+1,n=>of8 (ofL A R k (n / 8)) (n % 8)
theorem BG (A:Type):∀ k m n,m≠n→m<8 ^ k→n<8 ^ k→(lnL A k m).Dis (lnL A k n)
 | 0,m,n,h,hm,hn=>by simp at hm hn;omega
 | k+1,m,n,h,hm,hn=>by
   rw [Nat.pow_succ] at hm hn
   show (ln8 (lnL A k (m / 8)) (m % 8)).Dis (ln8 (lnL A k (n / 8)) (n % 8))
   by_cases he:m % 8=n % 8
   ·rw [he];exact aeN _ (BG A k _ _ (by omega) (by omega) (by omega))
   ·exact acW _ _ he (by omega) (by omega)
theorem Bq {A:Type} (x:A):∀ k n,(lnL A k n).get (lvE x k)=x
 | 0,_=>rfl
 | k+1,n=>by
   show (ln8 (lnL A k (n / 8)) (n % 8)).get (e8 (lvE x k))=x
   rcases iF (n % 8) with h | h | h | h | h | h | h | ⟨m,h⟩<;>rw [h]<;>exact Bq x k _
structure Tr (α:Type) where
 n0:Lv (Option α) 1
 n1:Lv (Option α) 2
 n2:Lv (Option α) 3
 n3:Lv (Option α) 4
 n4:Lv (Option α) 5
 n5:Lv (Option α) 6
 n6:Lv (Option α) 7
 ov:Nat→Option α
noncomputable def Tr.lf {α:Type}:Tr α:=⟨lvE none 1,lvE none 2,lvE none 3,lvE none 4,lvE none 5,lvE none 6,lvE none 7,fun _=>none⟩
noncomputable instance {α:Type}:Inhabited (Tr α):=⟨.lf⟩
def jG {α:Type} (l:Ln (Lv (Option α) 1) (Option α)):Ln (Tr α) (Option α):=⟨fun t=>l.get t.n0,fun t v=>⟨l.put t.n0 v,t.n1,t.n2,t.n3,t.n4,t.n5,t.n6,t.ov⟩⟩
noncomputable def XH {α R:Type} (l:Lw (Lv (Option α) 1) (Option α) R):Lw (Tr α) (Option α) R:=⟨fun t v K=>Tr.rec (motive:=fun _=>Option α→(Tr α→R)→R) (fun n0 n1 n2 n3 n4 n5 n6 ov v K=>l.set n0 v fun x=>K ⟨x,n1,n2,n3,n4,n5,n6,ov⟩) t v K⟩
def jF {α:Type} (l:Ln (Lv (Option α) 2) (Option α)):Ln (Tr α) (Option α):=⟨fun t=>l.get t.n1,fun t v=>⟨t.n0,l.put t.n1 v,t.n2,t.n3,t.n4,t.n5,t.n6,t.ov⟩⟩
noncomputable def XG {α R:Type} (l:Lw (Lv (Option α) 2) (Option α) R):Lw (Tr α) (Option α) R:=⟨fun t v K=>Tr.rec (motive:=fun _=>Option α→(Tr α→R)→R) (fun n0 n1 n2 n3 n4 n5 n6 ov v K=>l.set n1 v fun x=>K ⟨n0,x,n2,n3,n4,n5,n6,ov⟩) t v K⟩
def jE {α:Type} (l:Ln (Lv (Option α) 3) (Option α)):Ln (Tr α) (Option α):=⟨fun t=>l.get t.n2,fun t v=>⟨t.n0,t.n1,l.put t.n2 v,t.n3,t.n4,t.n5,t.n6,t.ov⟩⟩
noncomputable def XF {α R:Type} (l:Lw (Lv (Option α) 3) (Option α) R):Lw (Tr α) (Option α) R:=⟨fun t v K=>Tr.rec (motive:=fun _=>Option α→(Tr α→R)→R) (fun n0 n1 n2 n3 n4 n5 n6 ov v K=>l.set n2 v fun x=>K ⟨n0,n1,x,n3,n4,n5,n6,ov⟩) t v K⟩
def jD {α:Type} (l:Ln (Lv (Option α) 4) (Option α)):Ln (Tr α) (Option α):=⟨fun t=>l.get t.n3,fun t v=>⟨t.n0,t.n1,t.n2,l.put t.n3 v,t.n4,t.n5,t.n6,t.ov⟩⟩
noncomputable def XE {α R:Type} (l:Lw (Lv (Option α) 4) (Option α) R):Lw (Tr α) (Option α) R:=⟨fun t v K=>Tr.rec (motive:=fun _=>Option α→(Tr α→R)→R) (fun n0 n1 n2 n3 n4 n5 n6 ov v K=>l.set n3 v fun x=>K ⟨n0,n1,n2,x,n4,n5,n6,ov⟩) t v K⟩
def jC {α:Type} (l:Ln (Lv (Option α) 5) (Option α)):Ln (Tr α) (Option α):=⟨fun t=>l.get t.n4,fun t v=>⟨t.n0,t.n1,t.n2,t.n3,l.put t.n4 v,t.n5,t.n6,t.ov⟩⟩
noncomputable def XD {α R:Type} (l:Lw (Lv (Option α) 5) (Option α) R):Lw (Tr α) (Option α) R:=⟨fun t v K=>Tr.rec (motive:=fun _=>Option α→(Tr α→R)→R) (fun n0 n1 n2 n3 n4 n5 n6 ov v K=>l.set n4 v fun x=>K ⟨n0,n1,n2,n3,x,n5,n6,ov⟩) t v K⟩
def jB {α:Type} (l:Ln (Lv (Option α) 6) (Option α)):Ln (Tr α) (Option α):=⟨fun t=>l.get t.n5,fun t v=>⟨t.n0,t.n1,t.n2,t.n3,t.n4,l.put t.n5 v,t.n6,t.ov⟩⟩
noncomputable def XC {α R:Type} (l:Lw (Lv (Option α) 6) (Option α) R):Lw (Tr α) (Option α) R:=⟨fun t v K=>Tr.rec (motive:=fun _=>Option α→(Tr α→R)→R) (fun n0 n1 n2 n3 n4 n5 n6 ov v K=>l.set n5 v fun x=>K ⟨n0,n1,n2,n3,n4,x,n6,ov⟩) t v K⟩
def jA {α:Type} (l:Ln (Lv (Option α) 7) (Option α)):Ln (Tr α) (Option α):=⟨fun t=>l.get t.n6,fun t v=>⟨t.n0,t.n1,t.n2,t.n3,t.n4,t.n5,l.put t.n6 v,t.ov⟩⟩
noncomputable def XB {α R:Type} (l:Lw (Lv (Option α) 7) (Option α) R):Lw (Tr α) (Option α) R:=⟨fun t v K=>Tr.rec (motive:=fun _=>Option α→(Tr α→R)→R) (fun n0 n1 n2 n3 n4 n5 n6 ov v K=>l.set n6 v fun x=>K ⟨n0,n1,n2,n3,n4,n5,x,ov⟩) t v K⟩
def lX {α:Type} (n:Nat):Ln (Tr α) (Option α):=⟨fun t=>t.ov n,fun t v=>⟨t.n0,t.n1,t.n2,t.n3,t.n4,t.n5,t.n6,fun i=>cond (Nat.beq i n) v (t.ov i)⟩⟩
noncomputable def abn {α R:Type} (n:Nat):Lw (Tr α) (Option α) R:=⟨fun t v K=>Tr.rec (motive:=fun _=>R) (fun n0 n1 n2 n3 n4 n5 n6 ov=>K ⟨n0,n1,n2,n3,n4,n5,n6,fun i=>cond (Nat.beq i n) v (ov i)⟩) t⟩
noncomputable def lnT (α:Type) (n:Nat):Ln (Tr α) (Option α):=
 Bool.rec (motive:=fun _=>Ln (Tr α) (Option α)) (Bool.rec (motive:=fun _=>Ln (Tr α) (Option α)) (Bool.rec (motive:=fun _=>Ln (Tr α) (Option α)) (Bool.rec (motive:=fun _=>Ln (Tr α) (Option α)) (Bool.rec (motive:=fun _=>Ln (Tr α) (Option α)) (Bool.rec (motive:=fun _=>Ln (Tr α) (Option α)) (Bool.rec (motive:=fun _=>Ln (Tr α) (Option α)) (lX n)
 (jA (lnL (Option α) 7 (Nat.sub n 299592))) (Nat.blt n 2396744))
 (jB (lnL (Option α) 6 (Nat.sub n 37448))) (Nat.blt n 299592))
 (jC (lnL (Option α) 5 (Nat.sub n 4680))) (Nat.blt n 37448))
 (jD (lnL (Option α) 4 (Nat.sub n 584))) (Nat.blt n 4680))
 (jE (lnL (Option α) 3 (Nat.sub n 72))) (Nat.blt n 584))
 (jF (lnL (Option α) 2 (Nat.sub n 8))) (Nat.blt n 72))
 (jG (lnL (Option α) 1 (Nat.sub n 0))) (Nat.blt n 8)
noncomputable def lkT (α R:Type) (n:Nat):Lw (Tr α) (Option α) R:=
 Bool.rec (motive:=fun _=>Lw (Tr α) (Option α) R) (Bool.rec (motive:=fun _=>Lw (Tr α) (Option α) R) (Bool.rec (motive:=fun _=>Lw (Tr α) (Option α) R) (Bool.rec (motive:=fun _=>Lw (Tr α) (Option α) R) (Bool.rec (motive:=fun _=>Lw (Tr α) (Option α) R) (Bool.rec (motive:=fun _=>Lw (Tr α) (Option α) R) (Bool.rec (motive:=fun _=>Lw (Tr α) (Option α) R) (abn n)
 (XB (lkL (Option α) R 7 (Nat.sub n 299592))) (Nat.blt n 2396744))
 (XC (lkL (Option α) R 6 (Nat.sub n 37448))) (Nat.blt n 299592))
 (XD (lkL (Option α) R 5 (Nat.sub n 4680))) (Nat.blt n 37448))
 (XE (lkL (Option α) R 4 (Nat.sub n 584))) (Nat.blt n 4680))
 (XF (lkL (Option α) R 3 (Nat.sub n 72))) (Nat.blt n 584))
 (XG (lkL (Option α) R 2 (Nat.sub n 8))) (Nat.blt n 72))
 (XH (lkL (Option α) R 1 (Nat.sub n 0))) (Nat.blt n 8)
inductive At (α:Type) (n:Nat):Nat→Prop
 | l0:0≤n→n<8→lnT α n=jG (lnL (Option α) 1 (n-0))→(∀ R,lkT α R n=XH (lkL (Option α) R 1 (n-0)))→At α n 0
 | l1:8≤n→n<72→lnT α n=jF (lnL (Option α) 2 (n-8))→(∀ R,lkT α R n=XG (lkL (Option α) R 2 (n-8)))→At α n 1
 | l2:72≤n→n<584→lnT α n=jE (lnL (Option α) 3 (n-72))→(∀ R,lkT α R n=XF (lkL (Option α) R 3 (n-72)))→At α n 2
 | l3:584≤n→n<4680→lnT α n=jD (lnL (Option α) 4 (n-584))→(∀ R,lkT α R n=XE (lkL (Option α) R 4 (n-584)))→At α n 3
 | l4:4680≤n→n<37448→lnT α n=jC (lnL (Option α) 5 (n-4680))→(∀ R,lkT α R n=XD (lkL (Option α) R 5 (n-4680)))→At α n 4
 | l5:37448≤n→n<299592→lnT α n=jB (lnL (Option α) 6 (n-37448))→(∀ R,lkT α R n=XC (lkL (Option α) R 6 (n-37448)))→At α n 5
 | l6:299592≤n→n<2396744→lnT α n=jA (lnL (Option α) 7 (n-299592))→(∀ R,lkT α R n=XB (lkL (Option α) R 7 (n-299592)))→At α n 6
 | o:2396744≤n→lnT α n=lX n→(∀ R,lkT α R n=abn n)→At α n 7
theorem fO {a b:Nat}:Nat.blt a b=true↔a<b:=⟨Nat.le_of_ble_eq_true,fun h=>Nat.ble_eq_true_of_le h⟩
theorem at_ (α:Type) (n:Nat):∃ i,At α n i:=by
 cases h0:Nat.blt n 8 with
 | true=>exact ⟨0,.l0 (Nat.zero_le _) (fO.1 h0) (by unfold lnT;rw [h0];rfl) (fun R=>by unfold lkT;rw [h0];rfl)⟩
 | false=>
   cases h1:Nat.blt n 72 with
   | true=>exact ⟨1,.l1 (by have:=mt fO.2 (by rw [h0];simp);omega) (fO.1 h1) (by unfold lnT;rw [h0,h1];rfl) (fun R=>by unfold lkT;rw [h0,h1];rfl)⟩
   | false=>
     cases h2:Nat.blt n 584 with
     | true=>exact ⟨2,.l2 (by have:=mt fO.2 (by rw [h1];simp);omega) (fO.1 h2) (by unfold lnT;rw [h0,h1,h2];rfl) (fun R=>by unfold lkT;rw [h0,h1,h2];rfl)⟩
     | false=>
       cases h3:Nat.blt n 4680 with
       | true=>exact ⟨3,.l3 (by have:=mt fO.2 (by rw [h2];simp);omega) (fO.1 h3) (by unfold lnT;rw [h0,h1,h2,h3];rfl) (fun R=>by unfold lkT;rw [h0,h1,h2,h3];rfl)⟩
       | false=>
         cases h4:Nat.blt n 37448 with
         | true=>exact ⟨4,.l4 (by have:=mt fO.2 (by rw [h3];simp);omega) (fO.1 h4) (by unfold lnT;rw [h0,h1,h2,h3,h4];rfl) (fun R=>by unfold lkT;rw [h0,h1,h2,h3,h4];rfl)⟩
         | false=>
           cases h5:Nat.blt n 299592 with
           | true=>exact ⟨5,.l5 (by have:=mt fO.2 (by rw [h4];simp);omega) (fO.1 h5) (by unfold lnT;rw [h0,h1,h2,h3,h4,h5];rfl) (fun R=>by unfold lkT;rw [h0,h1,h2,h3,h4,h5];rfl)⟩
           | false=>
             cases h6:Nat.blt n 2396744 with
             | true=>exact ⟨6,.l6 (by have:=mt fO.2 (by rw [h5];simp);omega) (fO.1 h6) (by unfold lnT;rw [h0,h1,h2,h3,h4,h5,h6];rfl) (fun R=>by unfold lkT;rw [h0,h1,h2,h3,h4,h5,h6];rfl)⟩
             | false=>
               exact ⟨7,.o (by have:=mt fO.2 (by rw [h6];simp);omega) (by unfold lnT;rw [h0,h1,h2,h3,h4,h5,h6]) (fun R=>by unfold lkT;rw [h0,h1,h2,h3,h4,h5,h6])⟩
theorem aen {α:Type} {l:Ln (Lv (Option α) 1) (Option α)} (h:l.Ok):(jG l).Ok:=⟨fun t v=>h.gp t.n0 v⟩
theorem aew {α R:Type} {k:Lw (Lv (Option α) 1) (Option α) R} {l:Ln (Lv (Option α) 1) (Option α)} (h:k.Of l):(XH k).Of (jG l):=fun t v K=>h t.n0 v _
theorem acV {α:Type} {l l':Ln (Lv (Option α) 1) (Option α)} (h:l.Dis l'):(jG l).Dis (jG l'):=fun t v=>h t.n0 v
theorem aeD {α:Type} {l:Ln (Lv (Option α) 1) (Option α)} (h:l.get (lvE none 1)=none):(jG l).get .lf=none:=h
theorem aem {α:Type} {l:Ln (Lv (Option α) 2) (Option α)} (h:l.Ok):(jF l).Ok:=⟨fun t v=>h.gp t.n1 v⟩
theorem aev {α R:Type} {k:Lw (Lv (Option α) 2) (Option α) R} {l:Ln (Lv (Option α) 2) (Option α)} (h:k.Of l):(XG k).Of (jF l):=fun t v K=>h t.n1 v _
theorem acU {α:Type} {l l':Ln (Lv (Option α) 2) (Option α)} (h:l.Dis l'):(jF l).Dis (jF l'):=fun t v=>h t.n1 v
theorem aeC {α:Type} {l:Ln (Lv (Option α) 2) (Option α)} (h:l.get (lvE none 2)=none):(jF l).get .lf=none:=h
theorem ael {α:Type} {l:Ln (Lv (Option α) 3) (Option α)} (h:l.Ok):(jE l).Ok:=⟨fun t v=>h.gp t.n2 v⟩
theorem aeu {α R:Type} {k:Lw (Lv (Option α) 3) (Option α) R} {l:Ln (Lv (Option α) 3) (Option α)} (h:k.Of l):(XF k).Of (jE l):=fun t v K=>h t.n2 v _
theorem acT {α:Type} {l l':Ln (Lv (Option α) 3) (Option α)} (h:l.Dis l'):(jE l).Dis (jE l'):=fun t v=>h t.n2 v
theorem aeB {α:Type} {l:Ln (Lv (Option α) 3) (Option α)} (h:l.get (lvE none 3)=none):(jE l).get .lf=none:=h
theorem aek {α:Type} {l:Ln (Lv (Option α) 4) (Option α)} (h:l.Ok):(jD l).Ok:=⟨fun t v=>h.gp t.n3 v⟩
theorem aes {α R:Type} {k:Lw (Lv (Option α) 4) (Option α) R} {l:Ln (Lv (Option α) 4) (Option α)} (h:k.Of l):(XE k).Of (jD l):=fun t v K=>h t.n3 v _
theorem acS {α:Type} {l l':Ln (Lv (Option α) 4) (Option α)} (h:l.Dis l'):(jD l).Dis (jD l'):=fun t v=>h t.n3 v
theorem aeA {α:Type} {l:Ln (Lv (Option α) 4) (Option α)} (h:l.get (lvE none 4)=none):(jD l).get .lf=none:=h
theorem aej {α:Type} {l:Ln (Lv (Option α) 5) (Option α)} (h:l.Ok):(jC l).Ok:=⟨fun t v=>h.gp t.n4 v⟩
theorem aer {α R:Type} {k:Lw (Lv (Option α) 5) (Option α) R} {l:Ln (Lv (Option α) 5) (Option α)} (h:k.Of l):(XD k).Of (jC l):=fun t v K=>h t.n4 v _
theorem acR {α:Type} {l l':Ln (Lv (Option α) 5) (Option α)} (h:l.Dis l'):(jC l).Dis (jC l'):=fun t v=>h t.n4 v
theorem aez {α:Type} {l:Ln (Lv (Option α) 5) (Option α)} (h:l.get (lvE none 5)=none):(jC l).get .lf=none:=h
theorem aei {α:Type} {l:Ln (Lv (Option α) 6) (Option α)} (h:l.Ok):(jB l).Ok:=⟨fun t v=>h.gp t.n5 v⟩
theorem aep {α R:Type} {k:Lw (Lv (Option α) 6) (Option α) R} {l:Ln (Lv (Option α) 6) (Option α)} (h:k.Of l):(XC k).Of (jB l):=fun t v K=>h t.n5 v _
theorem acQ {α:Type} {l l':Ln (Lv (Option α) 6) (Option α)} (h:l.Dis l'):(jB l).Dis (jB l'):=fun t v=>h t.n5 v
theorem aey {α:Type} {l:Ln (Lv (Option α) 6) (Option α)} (h:l.get (lvE none 6)=none):(jB l).get .lf=none:=h
theorem aeh {α:Type} {l:Ln (Lv (Option α) 7) (Option α)} (h:l.Ok):(jA l).Ok:=⟨fun t v=>h.gp t.n6 v⟩
theorem aeo {α R:Type} {k:Lw (Lv (Option α) 7) (Option α) R} {l:Ln (Lv (Option α) 7) (Option α)} (h:k.Of l):(XB k).Of (jA l):=fun t v K=>h t.n6 v _
theorem acP {α:Type} {l l':Ln (Lv (Option α) 7) (Option α)} (h:l.Dis l'):(jA l).Dis (jA l'):=fun t v=>h t.n6 v
theorem aex {α:Type} {l:Ln (Lv (Option α) 7) (Option α)} (h:l.get (lvE none 7)=none):(jA l).get .lf=none:=h
theorem aaH {α:Type} {x:Ln (Lv (Option α) 1) (Option α)} {y:Ln (Lv (Option α) 2) (Option α)}:(jG x).Dis (jF y):=fun _ _=>rfl
theorem aaG {α:Type} {x:Ln (Lv (Option α) 1) (Option α)} {y:Ln (Lv (Option α) 3) (Option α)}:(jG x).Dis (jE y):=fun _ _=>rfl
theorem aaF {α:Type} {x:Ln (Lv (Option α) 1) (Option α)} {y:Ln (Lv (Option α) 4) (Option α)}:(jG x).Dis (jD y):=fun _ _=>rfl
theorem aaE {α:Type} {x:Ln (Lv (Option α) 1) (Option α)} {y:Ln (Lv (Option α) 5) (Option α)}:(jG x).Dis (jC y):=fun _ _=>rfl
theorem aaD {α:Type} {x:Ln (Lv (Option α) 1) (Option α)} {y:Ln (Lv (Option α) 6) (Option α)}:(jG x).Dis (jB y):=fun _ _=>rfl
theorem aaC {α:Type} {x:Ln (Lv (Option α) 1) (Option α)} {y:Ln (Lv (Option α) 7) (Option α)}:(jG x).Dis (jA y):=fun _ _=>rfl
theorem aaB {α:Type} {x:Ln (Lv (Option α) 1) (Option α)} {y:Nat}:(jG x).Dis ((lX y:Ln (Tr α) (Option α))):=fun _ _=>rfl
theorem aaA {α:Type} {x:Ln (Lv (Option α) 2) (Option α)} {y:Ln (Lv (Option α) 1) (Option α)}:(jF x).Dis (jG y):=fun _ _=>rfl
theorem aaz {α:Type} {x:Ln (Lv (Option α) 2) (Option α)} {y:Ln (Lv (Option α) 3) (Option α)}:(jF x).Dis (jE y):=fun _ _=>rfl
theorem aay {α:Type} {x:Ln (Lv (Option α) 2) (Option α)} {y:Ln (Lv (Option α) 4) (Option α)}:(jF x).Dis (jD y):=fun _ _=>rfl
theorem aax {α:Type} {x:Ln (Lv (Option α) 2) (Option α)} {y:Ln (Lv (Option α) 5) (Option α)}:(jF x).Dis (jC y):=fun _ _=>rfl
theorem aaw {α:Type} {x:Ln (Lv (Option α) 2) (Option α)} {y:Ln (Lv (Option α) 6) (Option α)}:(jF x).Dis (jB y):=fun _ _=>rfl
theorem aav {α:Type} {x:Ln (Lv (Option α) 2) (Option α)} {y:Ln (Lv (Option α) 7) (Option α)}:(jF x).Dis (jA y):=fun _ _=>rfl
theorem aau {α:Type} {x:Ln (Lv (Option α) 2) (Option α)} {y:Nat}:(jF x).Dis ((lX y:Ln (Tr α) (Option α))):=fun _ _=>rfl
theorem aat {α:Type} {x:Ln (Lv (Option α) 3) (Option α)} {y:Ln (Lv (Option α) 1) (Option α)}:(jE x).Dis (jG y):=fun _ _=>rfl
theorem aas {α:Type} {x:Ln (Lv (Option α) 3) (Option α)} {y:Ln (Lv (Option α) 2) (Option α)}:(jE x).Dis (jF y):=fun _ _=>rfl
theorem aar {α:Type} {x:Ln (Lv (Option α) 3) (Option α)} {y:Ln (Lv (Option α) 4) (Option α)}:(jE x).Dis (jD y):=fun _ _=>rfl
theorem aaq {α:Type} {x:Ln (Lv (Option α) 3) (Option α)} {y:Ln (Lv (Option α) 5) (Option α)}:(jE x).Dis (jC y):=fun _ _=>rfl
theorem aap {α:Type} {x:Ln (Lv (Option α) 3) (Option α)} {y:Ln (Lv (Option α) 6) (Option α)}:(jE x).Dis (jB y):=fun _ _=>rfl
theorem aao {α:Type} {x:Ln (Lv (Option α) 3) (Option α)} {y:Ln (Lv (Option α) 7) (Option α)}:(jE x).Dis (jA y):=fun _ _=>rfl
theorem aan {α:Type} {x:Ln (Lv (Option α) 3) (Option α)} {y:Nat}:(jE x).Dis ((lX y:Ln (Tr α) (Option α))):=fun _ _=>rfl
theorem aam {α:Type} {x:Ln (Lv (Option α) 4) (Option α)} {y:Ln (Lv (Option α) 1) (Option α)}:(jD x).Dis (jG y):=fun _ _=>rfl
theorem aal {α:Type} {x:Ln (Lv (Option α) 4) (Option α)} {y:Ln (Lv (Option α) 2) (Option α)}:(jD x).Dis (jF y):=fun _ _=>rfl
theorem aak {α:Type} {x:Ln (Lv (Option α) 4) (Option α)} {y:Ln (Lv (Option α) 3) (Option α)}:(jD x).Dis (jE y):=fun _ _=>rfl
theorem aaj {α:Type} {x:Ln (Lv (Option α) 4) (Option α)} {y:Ln (Lv (Option α) 5) (Option α)}:(jD x).Dis (jC y):=fun _ _=>rfl
theorem aai {α:Type} {x:Ln (Lv (Option α) 4) (Option α)} {y:Ln (Lv (Option α) 6) (Option α)}:(jD x).Dis (jB y):=fun _ _=>rfl
theorem aah {α:Type} {x:Ln (Lv (Option α) 4) (Option α)} {y:Ln (Lv (Option α) 7) (Option α)}:(jD x).Dis (jA y):=fun _ _=>rfl
theorem aag {α:Type} {x:Ln (Lv (Option α) 4) (Option α)} {y:Nat}:(jD x).Dis ((lX y:Ln (Tr α) (Option α))):=fun _ _=>rfl
theorem aaf {α:Type} {x:Ln (Lv (Option α) 5) (Option α)} {y:Ln (Lv (Option α) 1) (Option α)}:(jC x).Dis (jG y):=fun _ _=>rfl
theorem aae {α:Type} {x:Ln (Lv (Option α) 5) (Option α)} {y:Ln (Lv (Option α) 2) (Option α)}:(jC x).Dis (jF y):=fun _ _=>rfl
theorem aad {α:Type} {x:Ln (Lv (Option α) 5) (Option α)} {y:Ln (Lv (Option α) 3) (Option α)}:(jC x).Dis (jE y):=fun _ _=>rfl
theorem aac {α:Type} {x:Ln (Lv (Option α) 5) (Option α)} {y:Ln (Lv (Option α) 4) (Option α)}:(jC x).Dis (jD y):=fun _ _=>rfl
theorem ZY {α:Type} {x:Ln (Lv (Option α) 5) (Option α)} {y:Ln (Lv (Option α) 6) (Option α)}:(jC x).Dis (jB y):=fun _ _=>rfl
theorem ZX {α:Type} {x:Ln (Lv (Option α) 5) (Option α)} {y:Ln (Lv (Option α) 7) (Option α)}:(jC x).Dis (jA y):=fun _ _=>rfl
theorem ZW {α:Type} {x:Ln (Lv (Option α) 5) (Option α)} {y:Nat}:(jC x).Dis ((lX y:Ln (Tr α) (Option α))):=fun _ _=>rfl
theorem ZV {α:Type} {x:Ln (Lv (Option α) 6) (Option α)} {y:Ln (Lv (Option α) 1) (Option α)}:(jB x).Dis (jG y):=fun _ _=>rfl
theorem ZU {α:Type} {x:Ln (Lv (Option α) 6) (Option α)} {y:Ln (Lv (Option α) 2) (Option α)}:(jB x).Dis (jF y):=fun _ _=>rfl
theorem ZT {α:Type} {x:Ln (Lv (Option α) 6) (Option α)} {y:Ln (Lv (Option α) 3) (Option α)}:(jB x).Dis (jE y):=fun _ _=>rfl
theorem ZR {α:Type} {x:Ln (Lv (Option α) 6) (Option α)} {y:Ln (Lv (Option α) 4) (Option α)}:(jB x).Dis (jD y):=fun _ _=>rfl
theorem ZQ {α:Type} {x:Ln (Lv (Option α) 6) (Option α)} {y:Ln (Lv (Option α) 5) (Option α)}:(jB x).Dis (jC y):=fun _ _=>rfl
theorem ZP {α:Type} {x:Ln (Lv (Option α) 6) (Option α)} {y:Ln (Lv (Option α) 7) (Option α)}:(jB x).Dis (jA y):=fun _ _=>rfl
theorem ZO {α:Type} {x:Ln (Lv (Option α) 6) (Option α)} {y:Nat}:(jB x).Dis ((lX y:Ln (Tr α) (Option α))):=fun _ _=>rfl
theorem ZN {α:Type} {x:Ln (Lv (Option α) 7) (Option α)} {y:Ln (Lv (Option α) 1) (Option α)}:(jA x).Dis (jG y):=fun _ _=>rfl
theorem ZM {α:Type} {x:Ln (Lv (Option α) 7) (Option α)} {y:Ln (Lv (Option α) 2) (Option α)}:(jA x).Dis (jF y):=fun _ _=>rfl
theorem ZL {α:Type} {x:Ln (Lv (Option α) 7) (Option α)} {y:Ln (Lv (Option α) 3) (Option α)}:(jA x).Dis (jE y):=fun _ _=>rfl
theorem ZK {α:Type} {x:Ln (Lv (Option α) 7) (Option α)} {y:Ln (Lv (Option α) 4) (Option α)}:(jA x).Dis (jD y):=fun _ _=>rfl
theorem ZJ {α:Type} {x:Ln (Lv (Option α) 7) (Option α)} {y:Ln (Lv (Option α) 5) (Option α)}:(jA x).Dis (jC y):=fun _ _=>rfl
theorem ZI {α:Type} {x:Ln (Lv (Option α) 7) (Option α)} {y:Ln (Lv (Option α) 6) (Option α)}:(jA x).Dis (jB y):=fun _ _=>rfl
theorem ZH {α:Type} {x:Ln (Lv (Option α) 7) (Option α)} {y:Nat}:(jA x).Dis ((lX y:Ln (Tr α) (Option α))):=fun _ _=>rfl
theorem ZG {α:Type} {x:Nat} {y:Ln (Lv (Option α) 1) (Option α)}:((lX x:Ln (Tr α) (Option α))).Dis (jG y):=fun _ _=>rfl
theorem ZF {α:Type} {x:Nat} {y:Ln (Lv (Option α) 2) (Option α)}:((lX x:Ln (Tr α) (Option α))).Dis (jF y):=fun _ _=>rfl
theorem ZE {α:Type} {x:Nat} {y:Ln (Lv (Option α) 3) (Option α)}:((lX x:Ln (Tr α) (Option α))).Dis (jE y):=fun _ _=>rfl
theorem ZC {α:Type} {x:Nat} {y:Ln (Lv (Option α) 4) (Option α)}:((lX x:Ln (Tr α) (Option α))).Dis (jD y):=fun _ _=>rfl
theorem ZB {α:Type} {x:Nat} {y:Ln (Lv (Option α) 5) (Option α)}:((lX x:Ln (Tr α) (Option α))).Dis (jC y):=fun _ _=>rfl
theorem ZA {α:Type} {x:Nat} {y:Ln (Lv (Option α) 6) (Option α)}:((lX x:Ln (Tr α) (Option α))).Dis (jB y):=fun _ _=>rfl
theorem YZ {α:Type} {x:Nat} {y:Ln (Lv (Option α) 7) (Option α)}:((lX x:Ln (Tr α) (Option α))).Dis (jA y):=fun _ _=>rfl
theorem okT (α:Type) (n:Nat):(lnT α n).Ok:=by
 obtain ⟨i,h⟩:=at_ α n
 cases h with
 | l0 _ _ e _=>rw [e];exact aen (okL (Option α) 1 (n-0))
 | l1 _ _ e _=>rw [e];exact aem (okL (Option α) 2 (n-8))
 | l2 _ _ e _=>rw [e];exact ael (okL (Option α) 3 (n-72))
 | l3 _ _ e _=>rw [e];exact aek (okL (Option α) 4 (n-584))
 | l4 _ _ e _=>rw [e];exact aej (okL (Option α) 5 (n-4680))
 | l5 _ _ e _=>rw [e];exact aei (okL (Option α) 6 (n-37448))
 | l6 _ _ e _=>rw [e];exact aeh (okL (Option α) 7 (n-299592))
 | o _ e _=>rw [e];exact ⟨fun t v=>by show cond (Nat.beq n n) v _=v;rw [Nat.beq_refl];rfl⟩
theorem ofT (α R:Type) (n:Nat):(lkT α R n).Of (lnT α n):=by
 obtain ⟨i,h⟩:=at_ α n
 cases h with
 | l0 _ _ e e'=>rw [e,e'];exact aew (ofL (Option α) R 1 (n-0))
 | l1 _ _ e e'=>rw [e,e'];exact aev (ofL (Option α) R 2 (n-8))
 | l2 _ _ e e'=>rw [e,e'];exact aeu (ofL (Option α) R 3 (n-72))
 | l3 _ _ e e'=>rw [e,e'];exact aes (ofL (Option α) R 4 (n-584))
 | l4 _ _ e e'=>rw [e,e'];exact aer (ofL (Option α) R 5 (n-4680))
 | l5 _ _ e e'=>rw [e,e'];exact aep (ofL (Option α) R 6 (n-37448))
 | l6 _ _ e e'=>rw [e,e'];exact aeo (ofL (Option α) R 7 (n-299592))
 | o _ e e'=>rw [e,e'];exact fun t v K=>rfl
theorem aeM (α:Type) {m n:Nat} (hmn:m≠n):(lnT α m).Dis (lnT α n):=by
 obtain ⟨i,h⟩:=at_ α m
 obtain ⟨j,h'⟩:=at_ α n
 cases h with
 | l0 a1 a2 e _=>
   rw [e]
   cases h' with
   | l0 b1 b2 e2 _=>rw [e2];exact acV (BG (Option α) 1 (m-0) (n-0) (by omega) (by omega) (by omega))
   | l1 b1 b2 e2 _=>rw [e2];exact aaH
   | l2 b1 b2 e2 _=>rw [e2];exact aaG
   | l3 b1 b2 e2 _=>rw [e2];exact aaF
   | l4 b1 b2 e2 _=>rw [e2];exact aaE
   | l5 b1 b2 e2 _=>rw [e2];exact aaD
   | l6 b1 b2 e2 _=>rw [e2];exact aaC
   | o b1 e2 _=>rw [e2];exact aaB
 | l1 a1 a2 e _=>
   rw [e]
   cases h' with
   | l0 b1 b2 e2 _=>rw [e2];exact aaA
   | l1 b1 b2 e2 _=>rw [e2];exact acU (BG (Option α) 2 (m-8) (n-8) (by omega) (by omega) (by omega))
   | l2 b1 b2 e2 _=>rw [e2];exact aaz
   | l3 b1 b2 e2 _=>rw [e2];exact aay
   | l4 b1 b2 e2 _=>rw [e2];exact aax
   | l5 b1 b2 e2 _=>rw [e2];exact aaw
   | l6 b1 b2 e2 _=>rw [e2];exact aav
   | o b1 e2 _=>rw [e2];exact aau
 | l2 a1 a2 e _=>
   rw [e]
   cases h' with
   | l0 b1 b2 e2 _=>rw [e2];exact aat
   | l1 b1 b2 e2 _=>rw [e2];exact aas
   | l2 b1 b2 e2 _=>rw [e2];exact acT (BG (Option α) 3 (m-72) (n-72) (by omega) (by omega) (by omega))
   | l3 b1 b2 e2 _=>rw [e2];exact aar
   | l4 b1 b2 e2 _=>rw [e2];exact aaq
   | l5 b1 b2 e2 _=>rw [e2];exact aap
   | l6 b1 b2 e2 _=>rw [e2];exact aao
   | o b1 e2 _=>rw [e2];exact aan
 | l3 a1 a2 e _=>
   rw [e]
   cases h' with
   | l0 b1 b2 e2 _=>rw [e2];exact aam
   | l1 b1 b2 e2 _=>rw [e2];exact aal
   | l2 b1 b2 e2 _=>rw [e2];exact aak
   | l3 b1 b2 e2 _=>rw [e2];exact acS (BG (Option α) 4 (m-584) (n-584) (by omega) (by omega) (by omega))
   | l4 b1 b2 e2 _=>rw [e2];exact aaj
   | l5 b1 b2 e2 _=>rw [e2];exact aai
   | l6 b1 b2 e2 _=>rw [e2];exact aah
   | o b1 e2 _=>rw [e2];exact aag
 | l4 a1 a2 e _=>
   rw [e]
   cases h' with
   | l0 b1 b2 e2 _=>rw [e2];exact aaf
   | l1 b1 b2 e2 _=>rw [e2];exact aae
   | l2 b1 b2 e2 _=>rw [e2];exact aad
   | l3 b1 b2 e2 _=>rw [e2];exact aac
   | l4 b1 b2 e2 _=>rw [e2];exact acR (BG (Option α) 5 (m-4680) (n-4680) (by omega) (by omega) (by omega))
   | l5 b1 b2 e2 _=>rw [e2];exact ZY
   | l6 b1 b2 e2 _=>rw [e2];exact ZX
   | o b1 e2 _=>rw [e2];exact ZW
 | l5 a1 a2 e _=>
   rw [e]
   cases h' with
   | l0 b1 b2 e2 _=>rw [e2];exact ZV
   | l1 b1 b2 e2 _=>rw [e2];exact ZU
   | l2 b1 b2 e2 _=>rw [e2];exact ZT
   | l3 b1 b2 e2 _=>rw [e2];exact ZR
   | l4 b1 b2 e2 _=>rw [e2];exact ZQ
   | l5 b1 b2 e2 _=>rw [e2];exact acQ (BG (Option α) 6 (m-37448) (n-37448) (by omega) (by omega) (by omega))
   | l6 b1 b2 e2 _=>rw [e2];exact ZP
   | o b1 e2 _=>rw [e2];exact ZO
 | l6 a1 a2 e _=>
   rw [e]
   cases h' with
   | l0 b1 b2 e2 _=>rw [e2];exact ZN
   | l1 b1 b2 e2 _=>rw [e2];exact ZM
   | l2 b1 b2 e2 _=>rw [e2];exact ZL
   | l3 b1 b2 e2 _=>rw [e2];exact ZK
   | l4 b1 b2 e2 _=>rw [e2];exact ZJ
   | l5 b1 b2 e2 _=>rw [e2];exact ZI
   | l6 b1 b2 e2 _=>rw [e2];exact acP (BG (Option α) 7 (m-299592) (n-299592) (by omega) (by omega) (by omega))
   | o b1 e2 _=>rw [e2];exact ZH
 | o a1 e _=>
   rw [e]
   cases h' with
   | l0 b1 b2 e2 _=>rw [e2];exact ZG
   | l1 b1 b2 e2 _=>rw [e2];exact ZF
   | l2 b1 b2 e2 _=>rw [e2];exact ZE
   | l3 b1 b2 e2 _=>rw [e2];exact ZC
   | l4 b1 b2 e2 _=>rw [e2];exact ZB
   | l5 b1 b2 e2 _=>rw [e2];exact ZA
   | l6 b1 b2 e2 _=>rw [e2];exact YZ
   | o b1 e2 _=>rw [e2];exact fun t v=>by show cond (Nat.beq m n) v _=_;rw [show Nat.beq m n=false from Bool.eq_false_iff.2 fun h=>hmn (Nat.eq_of_beq_eq_true h)];rfl
theorem lfT (α:Type) (n:Nat):(lnT α n).get (.lf:Tr α)=none:=by
 obtain ⟨i,h⟩:=at_ α n
 cases h with
 | l0 _ _ e _=>rw [e];exact aeD (Bq none 1 (n-0))
 | l1 _ _ e _=>rw [e];exact aeC (Bq none 2 (n-8))
 | l2 _ _ e _=>rw [e];exact aeB (Bq none 3 (n-72))
 | l3 _ _ e _=>rw [e];exact aeA (Bq none 4 (n-584))
 | l4 _ _ e _=>rw [e];exact aez (Bq none 5 (n-4680))
 | l5 _ _ e _=>rw [e];exact aey (Bq none 6 (n-37448))
 | l6 _ _ e _=>rw [e];exact aex (Bq none 7 (n-299592))
 | o _ e _=>rw [e];rfl
noncomputable def B.get {α:Type} (k:B) (t:Tr α):Option α:=(lnT α k.n).get t
noncomputable def B.put {α:Type} (k:B) (t:Tr α) (v:Option α):Tr α:=(lnT α k.n).put t v
noncomputable def B.gX {α R:Type} (k:B) (t:Tr α) (v:Option α) (K:Tr α→R):R:=(lkT α R k.n).set t v K
def yC (k:B):Nat:=k.n
noncomputable def B.P7 {R:Type} (k:B) (K:B→R):R:=Nat.rec (motive:=fun _=>(B→R)→R) (fun K=>K ⟨0⟩) (fun p _ K=>K ⟨Nat.succ p⟩) (Nat.add k.n 1) K
def bOf (n:Nat):B:=⟨n⟩
end Go.Sim
