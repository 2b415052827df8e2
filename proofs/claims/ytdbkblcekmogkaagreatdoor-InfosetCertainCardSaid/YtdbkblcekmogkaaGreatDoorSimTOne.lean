/- Sim: keys and tries, made for evaluation by the kernel. (Printed by a program, gent.py.) -/
import Derived.Test.YtdbkblcekmogkaaGreatDoorAbsO4One
set_option linter.unusedVariables false
set_option linter.unusedSimpArgs false
set_option linter.all false
namespace Go.Sim
structure B where
 n:Nat
 deriving Inhabited,DecidableEq
structure N8 (α:Type) where
 a:α
 b:α
 c:α
 d:α
 e:α
 f:α
 g:α
 h:α
structure Ln (S A:Type) where
 get:S→A
 put:S→A→S
structure Lw (S A R:Type) where
 set:S→A→(S→R)→R
def Ln.id (A:Type):Ln A A:=⟨fun t=>t,fun _ v=>v⟩
def Lw.id (A R:Type):Lw A A R:=⟨fun _ v K=>K v⟩
noncomputable def ln8 {S A:Type} (l:Ln S A) (i:Nat):Ln (N8 S) A:=
 Bool.rec (motive:=fun _=>Ln (N8 S) A) (Bool.rec (motive:=fun _=>Ln (N8 S) A) (Bool.rec (motive:=fun _=>Ln (N8 S) A) (Bool.rec (motive:=fun _=>Ln (N8 S) A) (Bool.rec (motive:=fun _=>Ln (N8 S) A) (Bool.rec (motive:=fun _=>Ln (N8 S) A) (Bool.rec (motive:=fun _=>Ln (N8 S) A) (⟨fun t=>l.get t.h,fun t v=>⟨t.a,t.b,t.c,t.d,t.e,t.f,t.g,l.put t.h v⟩⟩)
 ⟨fun t=>l.get t.g,fun t v=>⟨t.a,t.b,t.c,t.d,t.e,t.f,l.put t.g v,t.h⟩⟩ (Nat.beq i 6))
 ⟨fun t=>l.get t.f,fun t v=>⟨t.a,t.b,t.c,t.d,t.e,l.put t.f v,t.g,t.h⟩⟩ (Nat.beq i 5))
 ⟨fun t=>l.get t.e,fun t v=>⟨t.a,t.b,t.c,t.d,l.put t.e v,t.f,t.g,t.h⟩⟩ (Nat.beq i 4))
 ⟨fun t=>l.get t.d,fun t v=>⟨t.a,t.b,t.c,l.put t.d v,t.e,t.f,t.g,t.h⟩⟩ (Nat.beq i 3))
 ⟨fun t=>l.get t.c,fun t v=>⟨t.a,t.b,l.put t.c v,t.d,t.e,t.f,t.g,t.h⟩⟩ (Nat.beq i 2))
 ⟨fun t=>l.get t.b,fun t v=>⟨t.a,l.put t.b v,t.c,t.d,t.e,t.f,t.g,t.h⟩⟩ (Nat.beq i 1))
 ⟨fun t=>l.get t.a,fun t v=>⟨l.put t.a v,t.b,t.c,t.d,t.e,t.f,t.g,t.h⟩⟩ (Nat.beq i 0)
noncomputable def lk8 {S A R:Type} (l:Lw S A R) (i:Nat):Lw (N8 S) A R:=
 Bool.rec (motive:=fun _=>Lw (N8 S) A R) (Bool.rec (motive:=fun _=>Lw (N8 S) A R) (Bool.rec (motive:=fun _=>Lw (N8 S) A R) (Bool.rec (motive:=fun _=>Lw (N8 S) A R) (Bool.rec (motive:=fun _=>Lw (N8 S) A R) (Bool.rec (motive:=fun _=>Lw (N8 S) A R) (Bool.rec (motive:=fun _=>Lw (N8 S) A R) (⟨fun t v K=>N8.rec (motive:=fun _=>A→(N8 S→R)→R) (fun a b c d e f g h v K=>l.set h v fun x=>K ⟨a,b,c,d,e,f,g,x⟩) t v K⟩)
 ⟨fun t v K=>N8.rec (motive:=fun _=>A→(N8 S→R)→R) (fun a b c d e f g h v K=>l.set g v fun x=>K ⟨a,b,c,d,e,f,x,h⟩) t v K⟩ (Nat.beq i 6))
 ⟨fun t v K=>N8.rec (motive:=fun _=>A→(N8 S→R)→R) (fun a b c d e f g h v K=>l.set f v fun x=>K ⟨a,b,c,d,e,x,g,h⟩) t v K⟩ (Nat.beq i 5))
 ⟨fun t v K=>N8.rec (motive:=fun _=>A→(N8 S→R)→R) (fun a b c d e f g h v K=>l.set e v fun x=>K ⟨a,b,c,d,x,f,g,h⟩) t v K⟩ (Nat.beq i 4))
 ⟨fun t v K=>N8.rec (motive:=fun _=>A→(N8 S→R)→R) (fun a b c d e f g h v K=>l.set d v fun x=>K ⟨a,b,c,x,e,f,g,h⟩) t v K⟩ (Nat.beq i 3))
 ⟨fun t v K=>N8.rec (motive:=fun _=>A→(N8 S→R)→R) (fun a b c d e f g h v K=>l.set c v fun x=>K ⟨a,b,x,d,e,f,g,h⟩) t v K⟩ (Nat.beq i 2))
 ⟨fun t v K=>N8.rec (motive:=fun _=>A→(N8 S→R)→R) (fun a b c d e f g h v K=>l.set b v fun x=>K ⟨a,x,c,d,e,f,g,h⟩) t v K⟩ (Nat.beq i 1))
 ⟨fun t v K=>N8.rec (motive:=fun _=>A→(N8 S→R)→R) (fun a b c d e f g h v K=>l.set a v fun x=>K ⟨x,b,c,d,e,f,g,h⟩) t v K⟩ (Nat.beq i 0)
theorem jF (i:Nat):i=0∨i=1∨i=2∨i=3∨i=4∨i=5∨i=6∨(∃ m,i=m+7):=by
 rcases i with _ | _ | _ | _ | _ | _ | _ | m
 all_goals simp
structure Ln.Ok {S A:Type} (l:Ln S A):Prop where
 gp:∀ t v,l.get (l.put t v)=v
def Ln.Dis {S A B:Type} (l:Ln S A) (l':Ln S B):Prop:=∀ t v,l.get (l'.put t v)=l.get t
def Lw.Of {S A R:Type} (k:Lw S A R) (l:Ln S A):Prop:=∀ t v K,k.set t v K=K (l.put t v)
theorem ok8 {S A:Type} {l:Ln S A} (h:l.Ok) (i:Nat):(ln8 l i).Ok:=by
 rcases jF i with rfl | rfl | rfl | rfl | rfl | rfl | rfl | ⟨m,rfl⟩<;>exact ⟨fun t v=>h.gp _ v⟩
theorem of8 {S A R:Type} {k:Lw S A R} {l:Ln S A} (h:k.Of l) (i:Nat):(lk8 k i).Of (ln8 l i):=by
 rcases jF i with rfl | rfl | rfl | rfl | rfl | rfl | rfl | ⟨m,rfl⟩<;>exact fun t v K=>h _ v _
theorem aj9 {S A B:Type} {l:Ln S A} {l':Ln S B} (i:Nat) (h:l.Dis l'):(ln8 l i).Dis (ln8 l' i):=by
 rcases jF i with rfl | rfl | rfl | rfl | rfl | rfl | rfl | ⟨m,rfl⟩<;>exact fun t v=>h _ v
theorem aiy {S A B:Type} (l:Ln S A) (l':Ln S B) {i j:Nat} (h:i≠j) (hi:i<8) (hj:j<8):(ln8 l i).Dis (ln8 l' j):=by
 rcases jF i with rfl | rfl | rfl | rfl | rfl | rfl | rfl | ⟨m,rfl⟩<;>rcases jF j with rfl | rfl | rfl | rfl | rfl | rfl | rfl | ⟨m',rfl⟩ <;>
  first | exact fun t v=>rfl | exact absurd rfl h | omega
def Lv (A:Type):Nat→Type
 | 0=>A
 | k+1=>N8 (Lv A k)
noncomputable def e8 {S:Type} (x:S):N8 S:=⟨x,x,x,x,x,x,x,x⟩
noncomputable def lvE {A:Type} (x:A) (k:Nat):Lv A k:=Nat.rec (motive:=fun k=>Lv A k) x (fun _ ih=>e8 ih) k
noncomputable def lnL (A:Type) (k:Nat):Nat→Ln (Lv A k) A:=
 Nat.rec (motive:=fun k=>Nat→Ln (Lv A k) A) (fun _=>Ln.id A) (fun _ ih n=>ln8 (ih (Nat.div n 8)) (Nat.mod n 8)) k
noncomputable def lkL (A R:Type) (k:Nat):Nat→Lw (Lv A k) A R:=
 Nat.rec (motive:=fun k=>Nat→Lw (Lv A k) A R) (fun _=>Lw.id A R) (fun _ ih n=>lk8 (ih (Nat.div n 8)) (Nat.mod n 8)) k
theorem okL (A:Type):∀ k n,(lnL A k n).Ok
 | 0,_=>⟨fun _ _=>rfl⟩
 | k+1,n=>ok8 (okL A k (n / 8)) (n % 8)
theorem ofL (A R:Type):∀ k n,(lkL A R k n).Of (lnL A k n)
 | 0,_=>fun _ _ _=>rfl
 | k+1,n=>of8 (ofL A R k (n / 8)) (n % 8)
theorem Jj (A:Type):∀ k m n,m≠n→m<8 ^ k→n<8 ^ k→(lnL A k m).Dis (lnL A k n)
 | 0,m,n,h,hm,hn=>by simp at hm hn;omega
 | k+1,m,n,h,hm,hn=>by
   rw [Nat.pow_succ] at hm hn
   show (ln8 (lnL A k (m / 8)) (m % 8)).Dis (ln8 (lnL A k (n / 8)) (n % 8))
   by_cases he:m % 8=n % 8
   ·rw [he];exact aj9 _ (Jj A k _ _ (by omega) (by omega) (by omega))
   ·exact aiy _ _ he (by omega) (by omega)
theorem iI {A:Type} (x:A):∀ k n,(lnL A k n).get (lvE x k)=x
 | 0,_=>rfl
 | k+1,n=>by
   show (ln8 (lnL A k (n / 8)) (n % 8)).get (e8 (lvE x k))=x
   rcases jF (n % 8) with h | h | h | h | h | h | h | ⟨m,h⟩<;>rw [h]<;>exact iI x k _
structure Tr (α:Type) where
 n0:Lv (Option α) 1
 n1:Lv (Option α) 2
 n2:Lv (Option α) 3
 n3:Lv (Option α) 4
 n4:Lv (Option α) 5
 n5:Lv (Option α) 6
 n6:Lv (Option α) 7
 ov:Nat→Option α
noncomputable def Tr.lf {α:Type}:Tr α:=⟨lvE none 1,lvE none 2,lvE none 3,lvE none 4,lvE none 5,lvE none 6,lvE none 7,fun _=>none⟩
noncomputable instance {α:Type}:Inhabited (Tr α):=⟨.lf⟩
def lF {α:Type} (l:Ln (Lv (Option α) 1) (Option α)):Ln (Tr α) (Option α):=⟨fun t=>l.get t.n0,fun t v=>⟨l.put t.n0 v,t.n1,t.n2,t.n3,t.n4,t.n5,t.n6,t.ov⟩⟩
noncomputable def aeA {α R:Type} (l:Lw (Lv (Option α) 1) (Option α) R):Lw (Tr α) (Option α) R:=⟨fun t v K=>Tr.rec (motive:=fun _=>Option α→(Tr α→R)→R) (fun n0 n1 n2 n3 n4 n5 n6 ov v K=>l.set n0 v fun x=>K ⟨x,n1,n2,n3,n4,n5,n6,ov⟩) t v K⟩
def lD {α:Type} (l:Ln (Lv (Option α) 2) (Option α)):Ln (Tr α) (Option α):=⟨fun t=>l.get t.n1,fun t v=>⟨t.n0,l.put t.n1 v,t.n2,t.n3,t.n4,t.n5,t.n6,t.ov⟩⟩
noncomputable def aez {α R:Type} (l:Lw (Lv (Option α) 2) (Option α) R):Lw (Tr α) (Option α) R:=⟨fun t v K=>Tr.rec (motive:=fun _=>Option α→(Tr α→R)→R) (fun n0 n1 n2 n3 n4 n5 n6 ov v K=>l.set n1 v fun x=>K ⟨n0,x,n2,n3,n4,n5,n6,ov⟩) t v K⟩
def lC {α:Type} (l:Ln (Lv (Option α) 3) (Option α)):Ln (Tr α) (Option α):=⟨fun t=>l.get t.n2,fun t v=>⟨t.n0,t.n1,l.put t.n2 v,t.n3,t.n4,t.n5,t.n6,t.ov⟩⟩
noncomputable def aey {α R:Type} (l:Lw (Lv (Option α) 3) (Option α) R):Lw (Tr α) (Option α) R:=⟨fun t v K=>Tr.rec (motive:=fun _=>Option α→(Tr α→R)→R) (fun n0 n1 n2 n3 n4 n5 n6 ov v K=>l.set n2 v fun x=>K ⟨n0,n1,x,n3,n4,n5,n6,ov⟩) t v K⟩
def lu {α:Type} (l:Ln (Lv (Option α) 4) (Option α)):Ln (Tr α) (Option α):=⟨fun t=>l.get t.n3,fun t v=>⟨t.n0,t.n1,t.n2,l.put t.n3 v,t.n4,t.n5,t.n6,t.ov⟩⟩
noncomputable def aex {α R:Type} (l:Lw (Lv (Option α) 4) (Option α) R):Lw (Tr α) (Option α) R:=⟨fun t v K=>Tr.rec (motive:=fun _=>Option α→(Tr α→R)→R) (fun n0 n1 n2 n3 n4 n5 n6 ov v K=>l.set n3 v fun x=>K ⟨n0,n1,n2,x,n4,n5,n6,ov⟩) t v K⟩
def lq {α:Type} (l:Ln (Lv (Option α) 5) (Option α)):Ln (Tr α) (Option α):=⟨fun t=>l.get t.n4,fun t v=>⟨t.n0,t.n1,t.n2,t.n3,l.put t.n4 v,t.n5,t.n6,t.ov⟩⟩
noncomputable def aew {α R:Type} (l:Lw (Lv (Option α) 5) (Option α) R):Lw (Tr α) (Option α) R:=⟨fun t v K=>Tr.rec (motive:=fun _=>Option α→(Tr α→R)→R) (fun n0 n1 n2 n3 n4 n5 n6 ov v K=>l.set n4 v fun x=>K ⟨n0,n1,n2,n3,x,n5,n6,ov⟩) t v K⟩
def lg {α:Type} (l:Ln (Lv (Option α) 6) (Option α)):Ln (Tr α) (Option α):=⟨fun t=>l.get t.n5,fun t v=>⟨t.n0,t.n1,t.n2,t.n3,t.n4,l.put t.n5 v,t.n6,t.ov⟩⟩
noncomputable def aev {α R:Type} (l:Lw (Lv (Option α) 6) (Option α) R):Lw (Tr α) (Option α) R:=⟨fun t v K=>Tr.rec (motive:=fun _=>Option α→(Tr α→R)→R) (fun n0 n1 n2 n3 n4 n5 n6 ov v K=>l.set n5 v fun x=>K ⟨n0,n1,n2,n3,n4,x,n6,ov⟩) t v K⟩
def kZ {α:Type} (l:Ln (Lv (Option α) 7) (Option α)):Ln (Tr α) (Option α):=⟨fun t=>l.get t.n6,fun t v=>⟨t.n0,t.n1,t.n2,t.n3,t.n4,t.n5,l.put t.n6 v,t.ov⟩⟩
noncomputable def aeu {α R:Type} (l:Lw (Lv (Option α) 7) (Option α) R):Lw (Tr α) (Option α) R:=⟨fun t v K=>Tr.rec (motive:=fun _=>Option α→(Tr α→R)→R) (fun n0 n1 n2 n3 n4 n5 n6 ov v K=>l.set n6 v fun x=>K ⟨n0,n1,n2,n3,n4,n5,x,ov⟩) t v K⟩
def qh {α:Type} (n:Nat):Ln (Tr α) (Option α):=⟨fun t=>t.ov n,fun t v=>⟨t.n0,t.n1,t.n2,t.n3,t.n4,t.n5,t.n6,fun i=>cond (Nat.beq i n) v (t.ov i)⟩⟩
noncomputable def ag1 {α R:Type} (n:Nat):Lw (Tr α) (Option α) R:=⟨fun t v K=>Tr.rec (motive:=fun _=>R) (fun n0 n1 n2 n3 n4 n5 n6 ov=>K ⟨n0,n1,n2,n3,n4,n5,n6,fun i=>cond (Nat.beq i n) v (ov i)⟩) t⟩
noncomputable def lnT (α:Type) (n:Nat):Ln (Tr α) (Option α):=
 Bool.rec (motive:=fun _=>Ln (Tr α) (Option α)) (Bool.rec (motive:=fun _=>Ln (Tr α) (Option α)) (Bool.rec (motive:=fun _=>Ln (Tr α) (Option α)) (Bool.rec (motive:=fun _=>Ln (Tr α) (Option α)) (Bool.rec (motive:=fun _=>Ln (Tr α) (Option α)) (Bool.rec (motive:=fun _=>Ln (Tr α) (Option α)) (Bool.rec (motive:=fun _=>Ln (Tr α) (Option α)) (qh n)
 (kZ (lnL (Option α) 7 (Nat.sub n 299592))) (Nat.blt n 2396744))
 (lg (lnL (Option α) 6 (Nat.sub n 37448))) (Nat.blt n 299592))
 (lq (lnL (Option α) 5 (Nat.sub n 4680))) (Nat.blt n 37448))
 (lu (lnL (Option α) 4 (Nat.sub n 584))) (Nat.blt n 4680))
 (lC (lnL (Option α) 3 (Nat.sub n 72))) (Nat.blt n 584))
 (lD (lnL (Option α) 2 (Nat.sub n 8))) (Nat.blt n 72))
 (lF (lnL (Option α) 1 (Nat.sub n 0))) (Nat.blt n 8)
noncomputable def lkT (α R:Type) (n:Nat):Lw (Tr α) (Option α) R:=
 Bool.rec (motive:=fun _=>Lw (Tr α) (Option α) R) (Bool.rec (motive:=fun _=>Lw (Tr α) (Option α) R) (Bool.rec (motive:=fun _=>Lw (Tr α) (Option α) R) (Bool.rec (motive:=fun _=>Lw (Tr α) (Option α) R) (Bool.rec (motive:=fun _=>Lw (Tr α) (Option α) R) (Bool.rec (motive:=fun _=>Lw (Tr α) (Option α) R) (Bool.rec (motive:=fun _=>Lw (Tr α) (Option α) R) (ag1 n)
 (aeu (lkL (Option α) R 7 (Nat.sub n 299592))) (Nat.blt n 2396744))
 (aev (lkL (Option α) R 6 (Nat.sub n 37448))) (Nat.blt n 299592))
 (aew (lkL (Option α) R 5 (Nat.sub n 4680))) (Nat.blt n 37448))
 (aex (lkL (Option α) R 4 (Nat.sub n 584))) (Nat.blt n 4680))
 (aey (lkL (Option α) R 3 (Nat.sub n 72))) (Nat.blt n 584))
 (aez (lkL (Option α) R 2 (Nat.sub n 8))) (Nat.blt n 72))
 (aeA (lkL (Option α) R 1 (Nat.sub n 0))) (Nat.blt n 8)
inductive At (α:Type) (n:Nat):Nat→Prop
 | l0:0≤n→n<8→lnT α n=lF (lnL (Option α) 1 (n-0))→(∀ R,lkT α R n=aeA (lkL (Option α) R 1 (n-0)))→At α n 0
 | l1:8≤n→n<72→lnT α n=lD (lnL (Option α) 2 (n-8))→(∀ R,lkT α R n=aez (lkL (Option α) R 2 (n-8)))→At α n 1
 | l2:72≤n→n<584→lnT α n=lC (lnL (Option α) 3 (n-72))→(∀ R,lkT α R n=aey (lkL (Option α) R 3 (n-72)))→At α n 2
 | l3:584≤n→n<4680→lnT α n=lu (lnL (Option α) 4 (n-584))→(∀ R,lkT α R n=aex (lkL (Option α) R 4 (n-584)))→At α n 3
 | l4:4680≤n→n<37448→lnT α n=lq (lnL (Option α) 5 (n-4680))→(∀ R,lkT α R n=aew (lkL (Option α) R 5 (n-4680)))→At α n 4
 | l5:37448≤n→n<299592→lnT α n=lg (lnL (Option α) 6 (n-37448))→(∀ R,lkT α R n=aev (lkL (Option α) R 6 (n-37448)))→At α n 5
 | l6:299592≤n→n<2396744→lnT α n=kZ (lnL (Option α) 7 (n-299592))→(∀ R,lkT α R n=aeu (lkL (Option α) R 7 (n-299592)))→At α n 6
 | o:2396744≤n→lnT α n=qh n→(∀ R,lkT α R n=ag1 n)→At α n 7
theorem iK {a b:Nat}:Nat.blt a b=true↔a<b:=⟨Nat.le_of_ble_eq_true,fun h=>Nat.ble_eq_true_of_le h⟩
theorem at_ (α:Type) (n:Nat):∃ i,At α n i:=by
 cases h0:Nat.blt n 8 with
 | true=>exact ⟨0,.l0 (Nat.zero_le _) (iK.1 h0) (by unfold lnT;rw [h0];rfl) (fun R=>by unfold lkT;rw [h0];rfl)⟩
 | false=>
   cases h1:Nat.blt n 72 with
   | true=>exact ⟨1,.l1 (by have:=mt iK.2 (by rw [h0];simp);omega) (iK.1 h1) (by unfold lnT;rw [h0,h1];rfl) (fun R=>by unfold lkT;rw [h0,h1];rfl)⟩
   | false=>
     cases h2:Nat.blt n 584 with
     | true=>exact ⟨2,.l2 (by have:=mt iK.2 (by rw [h1];simp);omega) (iK.1 h2) (by unfold lnT;rw [h0,h1,h2];rfl) (fun R=>by unfold lkT;rw [h0,h1,h2];rfl)⟩
     | false=>
       cases h3:Nat.blt n 4680 with
       | true=>exact ⟨3,.l3 (by have:=mt iK.2 (by rw [h2];simp);omega) (iK.1 h3) (by unfold lnT;rw [h0,h1,h2,h3];rfl) (fun R=>by unfold lkT;rw [h0,h1,h2,h3];rfl)⟩
       | false=>
         cases h4:Nat.blt n 37448 with
         | true=>exact ⟨4,.l4 (by have:=mt iK.2 (by rw [h3];simp);omega) (iK.1 h4) (by unfold lnT;rw [h0,h1,h2,h3,h4];rfl) (fun R=>by unfold lkT;rw [h0,h1,h2,h3,h4];rfl)⟩
         | false=>
           cases h5:Nat.blt n 299592 with
           | true=>exact ⟨5,.l5 (by have:=mt iK.2 (by rw [h4];simp);omega) (iK.1 h5) (by unfold lnT;rw [h0,h1,h2,h3,h4,h5];rfl) (fun R=>by unfold lkT;rw [h0,h1,h2,h3,h4,h5];rfl)⟩
           | false=>
             cases h6:Nat.blt n 2396744 with
             | true=>exact ⟨6,.l6 (by have:=mt iK.2 (by rw [h5];simp);omega) (iK.1 h6) (by unfold lnT;rw [h0,h1,h2,h3,h4,h5,h6];rfl) (fun R=>by unfold lkT;rw [h0,h1,h2,h3,h4,h5,h6];rfl)⟩
             | false=>
               exact ⟨7,.o (by have:=mt iK.2 (by rw [h6];simp);omega) (by unfold lnT;rw [h0,h1,h2,h3,h4,h5,h6]) (fun R=>by unfold lkT;rw [h0,h1,h2,h3,h4,h5,h6])⟩
theorem ajP {α:Type} {l:Ln (Lv (Option α) 1) (Option α)} (h:l.Ok):(lF l).Ok:=⟨fun t v=>h.gp t.n0 v⟩
theorem ajW {α R:Type} {k:Lw (Lv (Option α) 1) (Option α) R} {l:Ln (Lv (Option α) 1) (Option α)} (h:k.Of l):(aeA k).Of (lF l):=fun t v K=>h t.n0 v _
theorem aix {α:Type} {l l':Ln (Lv (Option α) 1) (Option α)} (h:l.Dis l'):(lF l).Dis (lF l'):=fun t v=>h t.n0 v
theorem aj3 {α:Type} {l:Ln (Lv (Option α) 1) (Option α)} (h:l.get (lvE none 1)=none):(lF l).get .lf=none:=h
theorem ajO {α:Type} {l:Ln (Lv (Option α) 2) (Option α)} (h:l.Ok):(lD l).Ok:=⟨fun t v=>h.gp t.n1 v⟩
theorem ajV {α R:Type} {k:Lw (Lv (Option α) 2) (Option α) R} {l:Ln (Lv (Option α) 2) (Option α)} (h:k.Of l):(aez k).Of (lD l):=fun t v K=>h t.n1 v _
theorem aiw {α:Type} {l l':Ln (Lv (Option α) 2) (Option α)} (h:l.Dis l'):(lD l).Dis (lD l'):=fun t v=>h t.n1 v
theorem aj2 {α:Type} {l:Ln (Lv (Option α) 2) (Option α)} (h:l.get (lvE none 2)=none):(lD l).get .lf=none:=h
theorem ajN {α:Type} {l:Ln (Lv (Option α) 3) (Option α)} (h:l.Ok):(lC l).Ok:=⟨fun t v=>h.gp t.n2 v⟩
theorem ajU {α R:Type} {k:Lw (Lv (Option α) 3) (Option α) R} {l:Ln (Lv (Option α) 3) (Option α)} (h:k.Of l):(aey k).Of (lC l):=fun t v K=>h t.n2 v _
theorem aiv {α:Type} {l l':Ln (Lv (Option α) 3) (Option α)} (h:l.Dis l'):(lC l).Dis (lC l'):=fun t v=>h t.n2 v
theorem aj1 {α:Type} {l:Ln (Lv (Option α) 3) (Option α)} (h:l.get (lvE none 3)=none):(lC l).get .lf=none:=h
theorem ajM {α:Type} {l:Ln (Lv (Option α) 4) (Option α)} (h:l.Ok):(lu l).Ok:=⟨fun t v=>h.gp t.n3 v⟩
theorem ajT {α R:Type} {k:Lw (Lv (Option α) 4) (Option α) R} {l:Ln (Lv (Option α) 4) (Option α)} (h:k.Of l):(aex k).Of (lu l):=fun t v K=>h t.n3 v _
theorem aiu {α:Type} {l l':Ln (Lv (Option α) 4) (Option α)} (h:l.Dis l'):(lu l).Dis (lu l'):=fun t v=>h t.n3 v
theorem aj0 {α:Type} {l:Ln (Lv (Option α) 4) (Option α)} (h:l.get (lvE none 4)=none):(lu l).get .lf=none:=h
theorem ajL {α:Type} {l:Ln (Lv (Option α) 5) (Option α)} (h:l.Ok):(lq l).Ok:=⟨fun t v=>h.gp t.n4 v⟩
theorem ajS {α R:Type} {k:Lw (Lv (Option α) 5) (Option α) R} {l:Ln (Lv (Option α) 5) (Option α)} (h:k.Of l):(aew k).Of (lq l):=fun t v K=>h t.n4 v _
theorem ait {α:Type} {l l':Ln (Lv (Option α) 5) (Option α)} (h:l.Dis l'):(lq l).Dis (lq l'):=fun t v=>h t.n4 v
theorem ajZ {α:Type} {l:Ln (Lv (Option α) 5) (Option α)} (h:l.get (lvE none 5)=none):(lq l).get .lf=none:=h
theorem ajK {α:Type} {l:Ln (Lv (Option α) 6) (Option α)} (h:l.Ok):(lg l).Ok:=⟨fun t v=>h.gp t.n5 v⟩
theorem ajR {α R:Type} {k:Lw (Lv (Option α) 6) (Option α) R} {l:Ln (Lv (Option α) 6) (Option α)} (h:k.Of l):(aev k).Of (lg l):=fun t v K=>h t.n5 v _
theorem ais {α:Type} {l l':Ln (Lv (Option α) 6) (Option α)} (h:l.Dis l'):(lg l).Dis (lg l'):=fun t v=>h t.n5 v
theorem ajY {α:Type} {l:Ln (Lv (Option α) 6) (Option α)} (h:l.get (lvE none 6)=none):(lg l).get .lf=none:=h
theorem ajJ {α:Type} {l:Ln (Lv (Option α) 7) (Option α)} (h:l.Ok):(kZ l).Ok:=⟨fun t v=>h.gp t.n6 v⟩
theorem ajQ {α R:Type} {k:Lw (Lv (Option α) 7) (Option α) R} {l:Ln (Lv (Option α) 7) (Option α)} (h:k.Of l):(aeu k).Of (kZ l):=fun t v K=>h t.n6 v _
theorem air {α:Type} {l l':Ln (Lv (Option α) 7) (Option α)} (h:l.Dis l'):(kZ l).Dis (kZ l'):=fun t v=>h t.n6 v
theorem ajX {α:Type} {l:Ln (Lv (Option α) 7) (Option α)} (h:l.get (lvE none 7)=none):(kZ l).get .lf=none:=h
theorem agp {α:Type} {x:Ln (Lv (Option α) 1) (Option α)} {y:Ln (Lv (Option α) 2) (Option α)}:(lF x).Dis (lD y):=fun _ _=>rfl
theorem agn {α:Type} {x:Ln (Lv (Option α) 1) (Option α)} {y:Ln (Lv (Option α) 3) (Option α)}:(lF x).Dis (lC y):=fun _ _=>rfl
theorem agm {α:Type} {x:Ln (Lv (Option α) 1) (Option α)} {y:Ln (Lv (Option α) 4) (Option α)}:(lF x).Dis (lu y):=fun _ _=>rfl
theorem agl {α:Type} {x:Ln (Lv (Option α) 1) (Option α)} {y:Ln (Lv (Option α) 5) (Option α)}:(lF x).Dis (lq y):=fun _ _=>rfl
theorem agk {α:Type} {x:Ln (Lv (Option α) 1) (Option α)} {y:Ln (Lv (Option α) 6) (Option α)}:(lF x).Dis (lg y):=fun _ _=>rfl
theorem agj {α:Type} {x:Ln (Lv (Option α) 1) (Option α)} {y:Ln (Lv (Option α) 7) (Option α)}:(lF x).Dis (kZ y):=fun _ _=>rfl
theorem agi {α:Type} {x:Ln (Lv (Option α) 1) (Option α)} {y:Nat}:(lF x).Dis ((qh y:Ln (Tr α) (Option α))):=fun _ _=>rfl
theorem agh {α:Type} {x:Ln (Lv (Option α) 2) (Option α)} {y:Ln (Lv (Option α) 1) (Option α)}:(lD x).Dis (lF y):=fun _ _=>rfl
theorem agf {α:Type} {x:Ln (Lv (Option α) 2) (Option α)} {y:Ln (Lv (Option α) 3) (Option α)}:(lD x).Dis (lC y):=fun _ _=>rfl
theorem agd {α:Type} {x:Ln (Lv (Option α) 2) (Option α)} {y:Ln (Lv (Option α) 4) (Option α)}:(lD x).Dis (lu y):=fun _ _=>rfl
theorem agc {α:Type} {x:Ln (Lv (Option α) 2) (Option α)} {y:Ln (Lv (Option α) 5) (Option α)}:(lD x).Dis (lq y):=fun _ _=>rfl
theorem agb {α:Type} {x:Ln (Lv (Option α) 2) (Option α)} {y:Ln (Lv (Option α) 6) (Option α)}:(lD x).Dis (lg y):=fun _ _=>rfl
theorem aga {α:Type} {x:Ln (Lv (Option α) 2) (Option α)} {y:Ln (Lv (Option α) 7) (Option α)}:(lD x).Dis (kZ y):=fun _ _=>rfl
theorem af9 {α:Type} {x:Ln (Lv (Option α) 2) (Option α)} {y:Nat}:(lD x).Dis ((qh y:Ln (Tr α) (Option α))):=fun _ _=>rfl
theorem af8 {α:Type} {x:Ln (Lv (Option α) 3) (Option α)} {y:Ln (Lv (Option α) 1) (Option α)}:(lC x).Dis (lF y):=fun _ _=>rfl
theorem af7 {α:Type} {x:Ln (Lv (Option α) 3) (Option α)} {y:Ln (Lv (Option α) 2) (Option α)}:(lC x).Dis (lD y):=fun _ _=>rfl
theorem af6 {α:Type} {x:Ln (Lv (Option α) 3) (Option α)} {y:Ln (Lv (Option α) 4) (Option α)}:(lC x).Dis (lu y):=fun _ _=>rfl
theorem af5 {α:Type} {x:Ln (Lv (Option α) 3) (Option α)} {y:Ln (Lv (Option α) 5) (Option α)}:(lC x).Dis (lq y):=fun _ _=>rfl
theorem af4 {α:Type} {x:Ln (Lv (Option α) 3) (Option α)} {y:Ln (Lv (Option α) 6) (Option α)}:(lC x).Dis (lg y):=fun _ _=>rfl
theorem af2 {α:Type} {x:Ln (Lv (Option α) 3) (Option α)} {y:Ln (Lv (Option α) 7) (Option α)}:(lC x).Dis (kZ y):=fun _ _=>rfl
theorem af0 {α:Type} {x:Ln (Lv (Option α) 3) (Option α)} {y:Nat}:(lC x).Dis ((qh y:Ln (Tr α) (Option α))):=fun _ _=>rfl
theorem afZ {α:Type} {x:Ln (Lv (Option α) 4) (Option α)} {y:Ln (Lv (Option α) 1) (Option α)}:(lu x).Dis (lF y):=fun _ _=>rfl
theorem afY {α:Type} {x:Ln (Lv (Option α) 4) (Option α)} {y:Ln (Lv (Option α) 2) (Option α)}:(lu x).Dis (lD y):=fun _ _=>rfl
theorem afX {α:Type} {x:Ln (Lv (Option α) 4) (Option α)} {y:Ln (Lv (Option α) 3) (Option α)}:(lu x).Dis (lC y):=fun _ _=>rfl
theorem afW {α:Type} {x:Ln (Lv (Option α) 4) (Option α)} {y:Ln (Lv (Option α) 5) (Option α)}:(lu x).Dis (lq y):=fun _ _=>rfl
theorem afV {α:Type} {x:Ln (Lv (Option α) 4) (Option α)} {y:Ln (Lv (Option α) 6) (Option α)}:(lu x).Dis (lg y):=fun _ _=>rfl
theorem afU {α:Type} {x:Ln (Lv (Option α) 4) (Option α)} {y:Ln (Lv (Option α) 7) (Option α)}:(lu x).Dis (kZ y):=fun _ _=>rfl
theorem afT {α:Type} {x:Ln (Lv (Option α) 4) (Option α)} {y:Nat}:(lu x).Dis ((qh y:Ln (Tr α) (Option α))):=fun _ _=>rfl
theorem afS {α:Type} {x:Ln (Lv (Option α) 5) (Option α)} {y:Ln (Lv (Option α) 1) (Option α)}:(lq x).Dis (lF y):=fun _ _=>rfl
theorem afR {α:Type} {x:Ln (Lv (Option α) 5) (Option α)} {y:Ln (Lv (Option α) 2) (Option α)}:(lq x).Dis (lD y):=fun _ _=>rfl
theorem afQ {α:Type} {x:Ln (Lv (Option α) 5) (Option α)} {y:Ln (Lv (Option α) 3) (Option α)}:(lq x).Dis (lC y):=fun _ _=>rfl
theorem afP {α:Type} {x:Ln (Lv (Option α) 5) (Option α)} {y:Ln (Lv (Option α) 4) (Option α)}:(lq x).Dis (lu y):=fun _ _=>rfl
theorem afO {α:Type} {x:Ln (Lv (Option α) 5) (Option α)} {y:Ln (Lv (Option α) 6) (Option α)}:(lq x).Dis (lg y):=fun _ _=>rfl
theorem afN {α:Type} {x:Ln (Lv (Option α) 5) (Option α)} {y:Ln (Lv (Option α) 7) (Option α)}:(lq x).Dis (kZ y):=fun _ _=>rfl
theorem afM {α:Type} {x:Ln (Lv (Option α) 5) (Option α)} {y:Nat}:(lq x).Dis ((qh y:Ln (Tr α) (Option α))):=fun _ _=>rfl
theorem afL {α:Type} {x:Ln (Lv (Option α) 6) (Option α)} {y:Ln (Lv (Option α) 1) (Option α)}:(lg x).Dis (lF y):=fun _ _=>rfl
theorem afK {α:Type} {x:Ln (Lv (Option α) 6) (Option α)} {y:Ln (Lv (Option α) 2) (Option α)}:(lg x).Dis (lD y):=fun _ _=>rfl
theorem afJ {α:Type} {x:Ln (Lv (Option α) 6) (Option α)} {y:Ln (Lv (Option α) 3) (Option α)}:(lg x).Dis (lC y):=fun _ _=>rfl
theorem afI {α:Type} {x:Ln (Lv (Option α) 6) (Option α)} {y:Ln (Lv (Option α) 4) (Option α)}:(lg x).Dis (lu y):=fun _ _=>rfl
theorem afH {α:Type} {x:Ln (Lv (Option α) 6) (Option α)} {y:Ln (Lv (Option α) 5) (Option α)}:(lg x).Dis (lq y):=fun _ _=>rfl
theorem afG {α:Type} {x:Ln (Lv (Option α) 6) (Option α)} {y:Ln (Lv (Option α) 7) (Option α)}:(lg x).Dis (kZ y):=fun _ _=>rfl
theorem afF {α:Type} {x:Ln (Lv (Option α) 6) (Option α)} {y:Nat}:(lg x).Dis ((qh y:Ln (Tr α) (Option α))):=fun _ _=>rfl
theorem afE {α:Type} {x:Ln (Lv (Option α) 7) (Option α)} {y:Ln (Lv (Option α) 1) (Option α)}:(kZ x).Dis (lF y):=fun _ _=>rfl
theorem afD {α:Type} {x:Ln (Lv (Option α) 7) (Option α)} {y:Ln (Lv (Option α) 2) (Option α)}:(kZ x).Dis (lD y):=fun _ _=>rfl
theorem afC {α:Type} {x:Ln (Lv (Option α) 7) (Option α)} {y:Ln (Lv (Option α) 3) (Option α)}:(kZ x).Dis (lC y):=fun _ _=>rfl
theorem afB {α:Type} {x:Ln (Lv (Option α) 7) (Option α)} {y:Ln (Lv (Option α) 4) (Option α)}:(kZ x).Dis (lu y):=fun _ _=>rfl
theorem afA {α:Type} {x:Ln (Lv (Option α) 7) (Option α)} {y:Ln (Lv (Option α) 5) (Option α)}:(kZ x).Dis (lq y):=fun _ _=>rfl
theorem afz {α:Type} {x:Ln (Lv (Option α) 7) (Option α)} {y:Ln (Lv (Option α) 6) (Option α)}:(kZ x).Dis (lg y):=fun _ _=>rfl
theorem afy {α:Type} {x:Ln (Lv (Option α) 7) (Option α)} {y:Nat}:(kZ x).Dis ((qh y:Ln (Tr α) (Option α))):=fun _ _=>rfl
theorem afx {α:Type} {x:Nat} {y:Ln (Lv (Option α) 1) (Option α)}:((qh x:Ln (Tr α) (Option α))).Dis (lF y):=fun _ _=>rfl
theorem afw {α:Type} {x:Nat} {y:Ln (Lv (Option α) 2) (Option α)}:((qh x:Ln (Tr α) (Option α))).Dis (lD y):=fun _ _=>rfl
theorem afv {α:Type} {x:Nat} {y:Ln (Lv (Option α) 3) (Option α)}:((qh x:Ln (Tr α) (Option α))).Dis (lC y):=fun _ _=>rfl
theorem afu {α:Type} {x:Nat} {y:Ln (Lv (Option α) 4) (Option α)}:((qh x:Ln (Tr α) (Option α))).Dis (lu y):=fun _ _=>rfl
theorem afs {α:Type} {x:Nat} {y:Ln (Lv (Option α) 5) (Option α)}:((qh x:Ln (Tr α) (Option α))).Dis (lq y):=fun _ _=>rfl
theorem afr {α:Type} {x:Nat} {y:Ln (Lv (Option α) 6) (Option α)}:((qh x:Ln (Tr α) (Option α))).Dis (lg y):=fun _ _=>rfl
theorem afq {α:Type} {x:Nat} {y:Ln (Lv (Option α) 7) (Option α)}:((qh x:Ln (Tr α) (Option α))).Dis (kZ y):=fun _ _=>rfl
theorem okT (α:Type) (n:Nat):(lnT α n).Ok:=by
 obtain ⟨i,h⟩:=at_ α n
 cases h with
 | l0 _ _ e _=>rw [e];exact ajP (okL (Option α) 1 (n-0))
 | l1 _ _ e _=>rw [e];exact ajO (okL (Option α) 2 (n-8))
 | l2 _ _ e _=>rw [e];exact ajN (okL (Option α) 3 (n-72))
 | l3 _ _ e _=>rw [e];exact ajM (okL (Option α) 4 (n-584))
 | l4 _ _ e _=>rw [e];exact ajL (okL (Option α) 5 (n-4680))
 | l5 _ _ e _=>rw [e];exact ajK (okL (Option α) 6 (n-37448))
 | l6 _ _ e _=>rw [e];exact ajJ (okL (Option α) 7 (n-299592))
 | o _ e _=>rw [e];exact ⟨fun t v=>by show cond (Nat.beq n n) v _=v;rw [Nat.beq_refl];rfl⟩
theorem ofT (α R:Type) (n:Nat):(lkT α R n).Of (lnT α n):=by
 obtain ⟨i,h⟩:=at_ α n
 cases h with
 | l0 _ _ e e'=>rw [e,e'];exact ajW (ofL (Option α) R 1 (n-0))
 | l1 _ _ e e'=>rw [e,e'];exact ajV (ofL (Option α) R 2 (n-8))
 | l2 _ _ e e'=>rw [e,e'];exact ajU (ofL (Option α) R 3 (n-72))
 | l3 _ _ e e'=>rw [e,e'];exact ajT (ofL (Option α) R 4 (n-584))
 | l4 _ _ e e'=>rw [e,e'];exact ajS (ofL (Option α) R 5 (n-4680))
 | l5 _ _ e e'=>rw [e,e'];exact ajR (ofL (Option α) R 6 (n-37448))
 | l6 _ _ e e'=>rw [e,e'];exact ajQ (ofL (Option α) R 7 (n-299592))
 | o _ e e'=>rw [e,e'];exact fun t v K=>rfl
theorem aj8 (α:Type) {m n:Nat} (hmn:m≠n):(lnT α m).Dis (lnT α n):=by
 obtain ⟨i,h⟩:=at_ α m
 obtain ⟨j,h'⟩:=at_ α n
 cases h with
 | l0 a1 a2 e _=>
   rw [e]
   cases h' with
   | l0 b1 b2 e2 _=>rw [e2];exact aix (Jj (Option α) 1 (m-0) (n-0) (by omega) (by omega) (by omega))
   | l1 b1 b2 e2 _=>rw [e2];exact agp
   | l2 b1 b2 e2 _=>rw [e2];exact agn
   | l3 b1 b2 e2 _=>rw [e2];exact agm
   | l4 b1 b2 e2 _=>rw [e2];exact agl
   | l5 b1 b2 e2 _=>rw [e2];exact agk
   | l6 b1 b2 e2 _=>rw [e2];exact agj
   | o b1 e2 _=>rw [e2];exact agi
 | l1 a1 a2 e _=>
   rw [e]
   cases h' with
   | l0 b1 b2 e2 _=>rw [e2];exact agh
   | l1 b1 b2 e2 _=>rw [e2];exact aiw (Jj (Option α) 2 (m-8) (n-8) (by omega) (by omega) (by omega))
   | l2 b1 b2 e2 _=>rw [e2];exact agf
   | l3 b1 b2 e2 _=>rw [e2];exact agd
   | l4 b1 b2 e2 _=>rw [e2];exact agc
   | l5 b1 b2 e2 _=>rw [e2];exact agb
   | l6 b1 b2 e2 _=>rw [e2];exact aga
   | o b1 e2 _=>rw [e2];exact af9
 | l2 a1 a2 e _=>
   rw [e]
   cases h' with
   | l0 b1 b2 e2 _=>rw [e2];exact af8
   | l1 b1 b2 e2 _=>rw [e2];exact af7
   | l2 b1 b2 e2 _=>rw [e2];exact aiv (Jj (Option α) 3 (m-72) (n-72) (by omega) (by omega) (by omega))
   | l3 b1 b2 e2 _=>rw [e2];exact af6
   | l4 b1 b2 e2 _=>rw [e2];exact af5
   | l5 b1 b2 e2 _=>rw [e2];exact af4
   | l6 b1 b2 e2 _=>rw [e2];exact af2
   | o b1 e2 _=>rw [e2];exact af0
 | l3 a1 a2 e _=>
   rw [e]
   cases h' with
   | l0 b1 b2 e2 _=>rw [e2];exact afZ
   | l1 b1 b2 e2 _=>rw [e2];exact afY
   | l2 b1 b2 e2 _=>rw [e2];exact afX
   | l3 b1 b2 e2 _=>rw [e2];exact aiu (Jj (Option α) 4 (m-584) (n-584) (by omega) (by omega) (by omega))
   | l4 b1 b2 e2 _=>rw [e2];exact afW
   | l5 b1 b2 e2 _=>rw [e2];exact afV
   | l6 b1 b2 e2 _=>rw [e2];exact afU
   | o b1 e2 _=>rw [e2];exact afT
 | l4 a1 a2 e _=>
   rw [e]
   cases h' with
   | l0 b1 b2 e2 _=>rw [e2];exact afS
   | l1 b1 b2 e2 _=>rw [e2];exact afR
   | l2 b1 b2 e2 _=>rw [e2];exact afQ
   | l3 b1 b2 e2 _=>rw [e2];exact afP
   | l4 b1 b2 e2 _=>rw [e2];exact ait (Jj (Option α) 5 (m-4680) (n-4680) (by omega) (by omega) (by omega))
   | l5 b1 b2 e2 _=>rw [e2];exact afO
   | l6 b1 b2 e2 _=>rw [e2];exact afN
   | o b1 e2 _=>rw [e2];exact afM
 | l5 a1 a2 e _=>
   rw [e]
   cases h' with
   | l0 b1 b2 e2 _=>rw [e2];exact afL
   | l1 b1 b2 e2 _=>rw [e2];exact afK
   | l2 b1 b2 e2 _=>rw [e2];exact afJ
   | l3 b1 b2 e2 _=>rw [e2];exact afI
   | l4 b1 b2 e2 _=>rw [e2];exact afH
   | l5 b1 b2 e2 _=>rw [e2];exact ais (Jj (Option α) 6 (m-37448) (n-37448) (by omega) (by omega) (by omega))
   | l6 b1 b2 e2 _=>rw [e2];exact afG
   | o b1 e2 _=>rw [e2];exact afF
 | l6 a1 a2 e _=>
   rw [e]
   cases h' with
   | l0 b1 b2 e2 _=>rw [e2];exact afE
   | l1 b1 b2 e2 _=>rw [e2];exact afD
   | l2 b1 b2 e2 _=>rw [e2];exact afC
   | l3 b1 b2 e2 _=>rw [e2];exact afB
   | l4 b1 b2 e2 _=>rw [e2];exact afA
   | l5 b1 b2 e2 _=>rw [e2];exact afz
   | l6 b1 b2 e2 _=>rw [e2];exact air (Jj (Option α) 7 (m-299592) (n-299592) (by omega) (by omega) (by omega))
   | o b1 e2 _=>rw [e2];exact afy
 | o a1 e _=>
   rw [e]
   cases h' with
   | l0 b1 b2 e2 _=>rw [e2];exact afx
   | l1 b1 b2 e2 _=>rw [e2];exact afw
   | l2 b1 b2 e2 _=>rw [e2];exact afv
   | l3 b1 b2 e2 _=>rw [e2];exact afu
   | l4 b1 b2 e2 _=>rw [e2];exact afs
   | l5 b1 b2 e2 _=>rw [e2];exact afr
   | l6 b1 b2 e2 _=>rw [e2];exact afq
   | o b1 e2 _=>rw [e2];exact fun t v=>by show cond (Nat.beq m n) v _=_;rw [show Nat.beq m n=false from Bool.eq_false_iff.2 fun h=>hmn (Nat.eq_of_beq_eq_true h)];rfl
theorem lfT (α:Type) (n:Nat):(lnT α n).get (.lf:Tr α)=none:=by
 obtain ⟨i,h⟩:=at_ α n
 cases h with
 | l0 _ _ e _=>rw [e];exact aj3 (iI none 1 (n-0))
 | l1 _ _ e _=>rw [e];exact aj2 (iI none 2 (n-8))
 | l2 _ _ e _=>rw [e];exact aj1 (iI none 3 (n-72))
 | l3 _ _ e _=>rw [e];exact aj0 (iI none 4 (n-584))
 | l4 _ _ e _=>rw [e];exact ajZ (iI none 5 (n-4680))
 | l5 _ _ e _=>rw [e];exact ajY (iI none 6 (n-37448))
 | l6 _ _ e _=>rw [e];exact ajX (iI none 7 (n-299592))
 | o _ e _=>rw [e];rfl
noncomputable def B.get {α:Type} (k:B) (t:Tr α):Option α:=(lnT α k.n).get t
noncomputable def B.put {α:Type} (k:B) (t:Tr α) (v:Option α):Tr α:=(lnT α k.n).put t v
noncomputable def B.jl {α R:Type} (k:B) (t:Tr α) (v:Option α) (K:Tr α→R):R:=(lkT α R k.n).set t v K
def EL (k:B):Nat:=k.n
noncomputable def B.XR {R:Type} (k:B) (K:B→R):R:=Nat.rec (motive:=fun _=>(B→R)→R) (fun K=>K ⟨0⟩) (fun p _ K=>K ⟨Nat.succ p⟩) (Nat.add k.n 1) K
def bOf (n:Nat):B:=⟨n⟩
end Go.Sim
