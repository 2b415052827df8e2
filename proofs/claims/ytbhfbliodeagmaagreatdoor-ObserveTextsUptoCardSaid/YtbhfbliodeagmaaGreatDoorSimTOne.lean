/- Sim: keys and tries, made for evaluation by the kernel. (Printed by a program, gent.py.) -/
import Derived.Test.YtbhfbliodeagmaaGreatDoorAbsO4One
set_option linter.all false
namespace Go.Sim
structure B where
 n:Nat
 deriving Inhabited,DecidableEq
structure N8 (α:Type) where
 a:α
 b:α
 c:α
 d:α
 e:α
 f:α
 g:α
 h:α
structure Ln (S A:Type) where
 get:S→A
 put:S→A→S
structure Lw (S A R:Type) where
 set:S→A→(S→R)→R
def Ln.id (A:Type):Ln A A:=⟨fun t=>t,fun _ v=>v⟩
def Lw.id (A R:Type):Lw A A R:=⟨fun _ v K=>K v⟩
noncomputable def ln8 {S A:Type} (l:Ln S A) (i:Nat):Ln (N8 S) A:=
 Bool.rec (motive:=fun _=>Ln (N8 S) A) (Bool.rec (motive:=fun _=>Ln (N8 S) A) (Bool.rec (motive:=fun _=>Ln (N8 S) A) (Bool.rec (motive:=fun _=>Ln (N8 S) A) (Bool.rec (motive:=fun _=>Ln (N8 S) A) (Bool.rec (motive:=fun _=>Ln (N8 S) A) (Bool.rec (motive:=fun _=>Ln (N8 S) A) (⟨fun t=>l.get t.h,fun t v=>⟨t.a,t.b,t.c,t.d,t.e,t.f,t.g,l.put t.h v⟩⟩)
 ⟨fun t=>l.get t.g,fun t v=>⟨t.a,t.b,t.c,t.d,t.e,t.f,l.put t.g v,t.h⟩⟩ (Nat.beq i 6))
 ⟨fun t=>l.get t.f,fun t v=>⟨t.a,t.b,t.c,t.d,t.e,l.put t.f v,t.g,t.h⟩⟩ (Nat.beq i 5))
 ⟨fun t=>l.get t.e,fun t v=>⟨t.a,t.b,t.c,t.d,l.put t.e v,t.f,t.g,t.h⟩⟩ (Nat.beq i 4))
 ⟨fun t=>l.get t.d,fun t v=>⟨t.a,t.b,t.c,l.put t.d v,t.e,t.f,t.g,t.h⟩⟩ (Nat.beq i 3))
 ⟨fun t=>l.get t.c,fun t v=>⟨t.a,t.b,l.put t.c v,t.d,t.e,t.f,t.g,t.h⟩⟩ (Nat.beq i 2))
 ⟨fun t=>l.get t.b,fun t v=>⟨t.a,l.put t.b v,t.c,t.d,t.e,t.f,t.g,t.h⟩⟩ (Nat.beq i 1))
 ⟨fun t=>l.get t.a,fun t v=>⟨l.put t.a v,t.b,t.c,t.d,t.e,t.f,t.g,t.h⟩⟩ (Nat.beq i 0)
noncomputable def lk8 {S A R:Type} (l:Lw S A R) (i:Nat):Lw (N8 S) A R:=
 Bool.rec (motive:=fun _=>Lw (N8 S) A R) (Bool.rec (motive:=fun _=>Lw (N8 S) A R) (Bool.rec (motive:=fun _=>Lw (N8 S) A R) (Bool.rec (motive:=fun _=>Lw (N8 S) A R) (Bool.rec (motive:=fun _=>Lw (N8 S) A R) (Bool.rec (motive:=fun _=>Lw (N8 S) A R) (Bool.rec (motive:=fun _=>Lw (N8 S) A R) (⟨fun t v K=>N8.rec (motive:=fun _=>A→(N8 S→R)→R) (fun a b c d e f g h v K=>l.set h v fun x=>K ⟨a,b,c,d,e,f,g,x⟩) t v K⟩)
 ⟨fun t v K=>N8.rec (motive:=fun _=>A→(N8 S→R)→R) (fun a b c d e f g h v K=>l.set g v fun x=>K ⟨a,b,c,d,e,f,x,h⟩) t v K⟩ (Nat.beq i 6))
 ⟨fun t v K=>N8.rec (motive:=fun _=>A→(N8 S→R)→R) (fun a b c d e f g h v K=>l.set f v fun x=>K ⟨a,b,c,d,e,x,g,h⟩) t v K⟩ (Nat.beq i 5))
 ⟨fun t v K=>N8.rec (motive:=fun _=>A→(N8 S→R)→R) (fun a b c d e f g h v K=>l.set e v fun x=>K ⟨a,b,c,d,x,f,g,h⟩) t v K⟩ (Nat.beq i 4))
 ⟨fun t v K=>N8.rec (motive:=fun _=>A→(N8 S→R)→R) (fun a b c d e f g h v K=>l.set d v fun x=>K ⟨a,b,c,x,e,f,g,h⟩) t v K⟩ (Nat.beq i 3))
 ⟨fun t v K=>N8.rec (motive:=fun _=>A→(N8 S→R)→R) (fun a b c d e f g h v K=>l.set c v fun x=>K ⟨a,b,x,d,e,f,g,h⟩) t v K⟩ (Nat.beq i 2))
 ⟨fun t v K=>N8.rec (motive:=fun _=>A→(N8 S→R)→R) (fun a b c d e f g h v K=>l.set b v fun x=>K ⟨a,x,c,d,e,f,g,h⟩) t v K⟩ (Nat.beq i 1))
 ⟨fun t v K=>N8.rec (motive:=fun _=>A→(N8 S→R)→R) (fun a b c d e f g h v K=>l.set a v fun x=>K ⟨x,b,c,d,e,f,g,h⟩) t v K⟩ (Nat.beq i 0)
theorem kT (i:Nat):i=0∨i=1∨i=2∨i=3∨i=4∨i=5∨i=6∨(∃ m,i=m+7):=by
 rcases i with _ | _ | _ | _ | _ | _ | _ | m
 all_goals simp
structure Ln.Ok {S A:Type} (l:Ln S A):Prop where
 gp:∀ t v,l.get (l.put t v)=v
def Ln.Dis {S A B:Type} (l:Ln S A) (l':Ln S B):Prop:=∀ t v,l.get (l'.put t v)=l.get t
def Lw.Of {S A R:Type} (k:Lw S A R) (l:Ln S A):Prop:=∀ t v K,k.set t v K=K (l.put t v)
theorem ok8 {S A:Type} {l:Ln S A} (h:l.Ok) (i:Nat):(ln8 l i).Ok:=by
 rcases kT i with rfl | rfl | rfl | rfl | rfl | rfl | rfl | ⟨m,rfl⟩<;>exact ⟨fun t v=>h.gp _ v⟩
theorem of8 {S A R:Type} {k:Lw S A R} {l:Ln S A} (h:k.Of l) (i:Nat):(lk8 k i).Of (ln8 l i):=by
 rcases kT i with rfl | rfl | rfl | rfl | rfl | rfl | rfl | ⟨m,rfl⟩<;>exact fun t v K=>h _ v _
theorem anV {S A B:Type} {l:Ln S A} {l':Ln S B} (i:Nat) (h:l.Dis l'):(ln8 l i).Dis (ln8 l' i):=by
 rcases kT i with rfl | rfl | rfl | rfl | rfl | rfl | rfl | ⟨m,rfl⟩<;>exact fun t v=>h _ v
theorem al1 {S A B:Type} (l:Ln S A) (l':Ln S B) {i j:Nat} (h:i≠j) (hi:i<8) (hj:j<8):(ln8 l i).Dis (ln8 l' j):=by
 rcases kT i with rfl | rfl | rfl | rfl | rfl | rfl | rfl | ⟨m,rfl⟩<;>rcases kT j with rfl | rfl | rfl | rfl | rfl | rfl | rfl | ⟨m',rfl⟩ <;>
  first | exact fun t v=>rfl | exact absurd rfl h | omega
def Lv (A:Type):Nat→Type
 | 0=>A
 | k+1=>N8 (Lv A k)
noncomputable def e8 {S:Type} (x:S):N8 S:=⟨x,x,x,x,x,x,x,x⟩
noncomputable def lvE {A:Type} (x:A) (k:Nat):Lv A k:=Nat.rec (motive:=fun k=>Lv A k) x (fun _ ih=>e8 ih) k
noncomputable def lnL (A:Type) (k:Nat):Nat→Ln (Lv A k) A:=
 Nat.rec (motive:=fun k=>Nat→Ln (Lv A k) A) (fun _=>Ln.id A) (fun _ ih n=>ln8 (ih (Nat.div n 8)) (Nat.mod n 8)) k
noncomputable def lkL (A R:Type) (k:Nat):Nat→Lw (Lv A k) A R:=
 Nat.rec (motive:=fun k=>Nat→Lw (Lv A k) A R) (fun _=>Lw.id A R) (fun _ ih n=>lk8 (ih (Nat.div n 8)) (Nat.mod n 8)) k
theorem okL (A:Type):∀ k n,(lnL A k n).Ok
 | 0,_=>⟨fun _ _=>rfl⟩
 | k+1,n=>ok8 (okL A k (n / 8)) (n % 8)
theorem ofL (A R:Type):∀ k n,(lkL A R k n).Of (lnL A k n)
 | 0,_=>fun _ _ _=>rfl
 | k+1,n=>of8 (ofL A R k (n / 8)) (n % 8)
theorem NH (A:Type):∀ k m n,m≠n→m<8 ^ k→n<8 ^ k→(lnL A k m).Dis (lnL A k n)
 | 0,m,n,h,hm,hn=>by simp at hm hn;omega
 | k+1,m,n,h,hm,hn=>by
   rw [Nat.pow_succ] at hm hn
   show (ln8 (lnL A k (m / 8)) (m % 8)).Dis (ln8 (lnL A k (n / 8)) (n % 8))
   by_cases he:m % 8=n % 8
   ·rw [he];exact anV _ (NH A k _ _ (by omega) (by omega) (by omega))
   ·exact al1 _ _ he (by omega) (by omega)
theorem lJ {A:Type} (x:A):∀ k n,(lnL A k n).get (lvE x k)=x
 | 0,_=>rfl
 | k+1,n=>by
   show (ln8 (lnL A k (n / 8)) (n % 8)).get (e8 (lvE x k))=x
   rcases kT (n % 8) with h | h | h | h | h | h | h | ⟨m,h⟩<;>rw [h]<;>exact lJ x k _
structure Tr (α:Type) where
 n0:Lv (Option α) 1
 n1:Lv (Option α) 2
 n2:Lv (Option α) 3
 n3:Lv (Option α) 4
 n4:Lv (Option α) 5
 n5:Lv (Option α) 6
 n6:Lv (Option α) 7
 ov:Nat→Option α
noncomputable def Tr.lf {α:Type}:Tr α:=⟨lvE none 1,lvE none 2,lvE none 3,lvE none 4,lvE none 5,lvE none 6,lvE none 7,fun _=>none⟩
noncomputable instance {α:Type}:Inhabited (Tr α):=⟨.lf⟩
def nT {α:Type} (l:Ln (Lv (Option α) 1) (Option α)):Ln (Tr α) (Option α):=⟨fun t=>l.get t.n0,fun t v=>⟨l.put t.n0 v,t.n1,t.n2,t.n3,t.n4,t.n5,t.n6,t.ov⟩⟩
noncomputable def ah6 {α R:Type} (l:Lw (Lv (Option α) 1) (Option α) R):Lw (Tr α) (Option α) R:=⟨fun t v K=>Tr.rec (motive:=fun _=>Option α→(Tr α→R)→R) (fun n0 n1 n2 n3 n4 n5 n6 ov v K=>l.set n0 v fun x=>K ⟨x,n1,n2,n3,n4,n5,n6,ov⟩) t v K⟩
def nS {α:Type} (l:Ln (Lv (Option α) 2) (Option α)):Ln (Tr α) (Option α):=⟨fun t=>l.get t.n1,fun t v=>⟨t.n0,l.put t.n1 v,t.n2,t.n3,t.n4,t.n5,t.n6,t.ov⟩⟩
noncomputable def ah5 {α R:Type} (l:Lw (Lv (Option α) 2) (Option α) R):Lw (Tr α) (Option α) R:=⟨fun t v K=>Tr.rec (motive:=fun _=>Option α→(Tr α→R)→R) (fun n0 n1 n2 n3 n4 n5 n6 ov v K=>l.set n1 v fun x=>K ⟨n0,x,n2,n3,n4,n5,n6,ov⟩) t v K⟩
def nR {α:Type} (l:Ln (Lv (Option α) 3) (Option α)):Ln (Tr α) (Option α):=⟨fun t=>l.get t.n2,fun t v=>⟨t.n0,t.n1,l.put t.n2 v,t.n3,t.n4,t.n5,t.n6,t.ov⟩⟩
noncomputable def ah4 {α R:Type} (l:Lw (Lv (Option α) 3) (Option α) R):Lw (Tr α) (Option α) R:=⟨fun t v K=>Tr.rec (motive:=fun _=>Option α→(Tr α→R)→R) (fun n0 n1 n2 n3 n4 n5 n6 ov v K=>l.set n2 v fun x=>K ⟨n0,n1,x,n3,n4,n5,n6,ov⟩) t v K⟩
def nP {α:Type} (l:Ln (Lv (Option α) 4) (Option α)):Ln (Tr α) (Option α):=⟨fun t=>l.get t.n3,fun t v=>⟨t.n0,t.n1,t.n2,l.put t.n3 v,t.n4,t.n5,t.n6,t.ov⟩⟩
noncomputable def ah3 {α R:Type} (l:Lw (Lv (Option α) 4) (Option α) R):Lw (Tr α) (Option α) R:=⟨fun t v K=>Tr.rec (motive:=fun _=>Option α→(Tr α→R)→R) (fun n0 n1 n2 n3 n4 n5 n6 ov v K=>l.set n3 v fun x=>K ⟨n0,n1,n2,x,n4,n5,n6,ov⟩) t v K⟩
def nO {α:Type} (l:Ln (Lv (Option α) 5) (Option α)):Ln (Tr α) (Option α):=⟨fun t=>l.get t.n4,fun t v=>⟨t.n0,t.n1,t.n2,t.n3,l.put t.n4 v,t.n5,t.n6,t.ov⟩⟩
noncomputable def ah2 {α R:Type} (l:Lw (Lv (Option α) 5) (Option α) R):Lw (Tr α) (Option α) R:=⟨fun t v K=>Tr.rec (motive:=fun _=>Option α→(Tr α→R)→R) (fun n0 n1 n2 n3 n4 n5 n6 ov v K=>l.set n4 v fun x=>K ⟨n0,n1,n2,n3,x,n5,n6,ov⟩) t v K⟩
def nN {α:Type} (l:Ln (Lv (Option α) 6) (Option α)):Ln (Tr α) (Option α):=⟨fun t=>l.get t.n5,fun t v=>⟨t.n0,t.n1,t.n2,t.n3,t.n4,l.put t.n5 v,t.n6,t.ov⟩⟩
noncomputable def ah1 {α R:Type} (l:Lw (Lv (Option α) 6) (Option α) R):Lw (Tr α) (Option α) R:=⟨fun t v K=>Tr.rec (motive:=fun _=>Option α→(Tr α→R)→R) (fun n0 n1 n2 n3 n4 n5 n6 ov v K=>l.set n5 v fun x=>K ⟨n0,n1,n2,n3,n4,x,n6,ov⟩) t v K⟩
def nM {α:Type} (l:Ln (Lv (Option α) 7) (Option α)):Ln (Tr α) (Option α):=⟨fun t=>l.get t.n6,fun t v=>⟨t.n0,t.n1,t.n2,t.n3,t.n4,t.n5,l.put t.n6 v,t.ov⟩⟩
noncomputable def ah0 {α R:Type} (l:Lw (Lv (Option α) 7) (Option α) R):Lw (Tr α) (Option α) R:=⟨fun t v K=>Tr.rec (motive:=fun _=>Option α→(Tr α→R)→R) (fun n0 n1 n2 n3 n4 n5 n6 ov v K=>l.set n6 v fun x=>K ⟨n0,n1,n2,n3,n4,n5,x,ov⟩) t v K⟩
def tH {α:Type} (n:Nat):Ln (Tr α) (Option α):=⟨fun t=>t.ov n,fun t v=>⟨t.n0,t.n1,t.n2,t.n3,t.n4,t.n5,t.n6,fun i=>cond (Nat.beq i n) v (t.ov i)⟩⟩
noncomputable def akG {α R:Type} (n:Nat):Lw (Tr α) (Option α) R:=⟨fun t v K=>Tr.rec (motive:=fun _=>R) (fun n0 n1 n2 n3 n4 n5 n6 ov=>K ⟨n0,n1,n2,n3,n4,n5,n6,fun i=>cond (Nat.beq i n) v (ov i)⟩) t⟩
noncomputable def lnT (α:Type) (n:Nat):Ln (Tr α) (Option α):=
 Bool.rec (motive:=fun _=>Ln (Tr α) (Option α)) (Bool.rec (motive:=fun _=>Ln (Tr α) (Option α)) (Bool.rec (motive:=fun _=>Ln (Tr α) (Option α)) (Bool.rec (motive:=fun _=>Ln (Tr α) (Option α)) (Bool.rec (motive:=fun _=>Ln (Tr α) (Option α)) (Bool.rec (motive:=fun _=>Ln (Tr α) (Option α)) (Bool.rec (motive:=fun _=>Ln (Tr α) (Option α)) (tH n)
 (nM (lnL (Option α) 7 (Nat.sub n 299592))) (Nat.blt n 2396744))
 (nN (lnL (Option α) 6 (Nat.sub n 37448))) (Nat.blt n 299592))
 (nO (lnL (Option α) 5 (Nat.sub n 4680))) (Nat.blt n 37448))
 (nP (lnL (Option α) 4 (Nat.sub n 584))) (Nat.blt n 4680))
 (nR (lnL (Option α) 3 (Nat.sub n 72))) (Nat.blt n 584))
 (nS (lnL (Option α) 2 (Nat.sub n 8))) (Nat.blt n 72))
 (nT (lnL (Option α) 1 (Nat.sub n 0))) (Nat.blt n 8)
noncomputable def lkT (α R:Type) (n:Nat):Lw (Tr α) (Option α) R:=
 Bool.rec (motive:=fun _=>Lw (Tr α) (Option α) R) (Bool.rec (motive:=fun _=>Lw (Tr α) (Option α) R) (Bool.rec (motive:=fun _=>Lw (Tr α) (Option α) R) (Bool.rec (motive:=fun _=>Lw (Tr α) (Option α) R) (Bool.rec (motive:=fun _=>Lw (Tr α) (Option α) R) (Bool.rec (motive:=fun _=>Lw (Tr α) (Option α) R) (Bool.rec (motive:=fun _=>Lw (Tr α) (Option α) R) (akG n)
 (ah0 (lkL (Option α) R 7 (Nat.sub n 299592))) (Nat.blt n 2396744))
 (ah1 (lkL (Option α) R 6 (Nat.sub n 37448))) (Nat.blt n 299592))
 (ah2 (lkL (Option α) R 5 (Nat.sub n 4680))) (Nat.blt n 37448))
 (ah3 (lkL (Option α) R 4 (Nat.sub n 584))) (Nat.blt n 4680))
 (ah4 (lkL (Option α) R 3 (Nat.sub n 72))) (Nat.blt n 584))
 (ah5 (lkL (Option α) R 2 (Nat.sub n 8))) (Nat.blt n 72))
 (ah6 (lkL (Option α) R 1 (Nat.sub n 0))) (Nat.blt n 8)
inductive At (α:Type) (n:Nat):Nat→Prop
 | l0:0≤n→n<8→lnT α n=nT (lnL (Option α) 1 (n-0))→(∀ R,lkT α R n=ah6 (lkL (Option α) R 1 (n-0)))→At α n 0
 | l1:8≤n→n<72→lnT α n=nS (lnL (Option α) 2 (n-8))→(∀ R,lkT α R n=ah5 (lkL (Option α) R 2 (n-8)))→At α n 1
 | l2:72≤n→n<584→lnT α n=nR (lnL (Option α) 3 (n-72))→(∀ R,lkT α R n=ah4 (lkL (Option α) R 3 (n-72)))→At α n 2
 | l3:584≤n→n<4680→lnT α n=nP (lnL (Option α) 4 (n-584))→(∀ R,lkT α R n=ah3 (lkL (Option α) R 4 (n-584)))→At α n 3
 | l4:4680≤n→n<37448→lnT α n=nO (lnL (Option α) 5 (n-4680))→(∀ R,lkT α R n=ah2 (lkL (Option α) R 5 (n-4680)))→At α n 4
 | l5:37448≤n→n<299592→lnT α n=nN (lnL (Option α) 6 (n-37448))→(∀ R,lkT α R n=ah1 (lkL (Option α) R 6 (n-37448)))→At α n 5
 | l6:299592≤n→n<2396744→lnT α n=nM (lnL (Option α) 7 (n-299592))→(∀ R,lkT α R n=ah0 (lkL (Option α) R 7 (n-299592)))→At α n 6
 | o:2396744≤n→lnT α n=tH n→(∀ R,lkT α R n=akG n)→At α n 7
theorem je {a b:Nat}:Nat.blt a b=true↔a<b:=⟨Nat.le_of_ble_eq_true,fun h=>Nat.ble_eq_true_of_le h⟩
theorem at_ (α:Type) (n:Nat):∃ i,At α n i:=by
 cases h0:Nat.blt n 8 with
 | true=>exact ⟨0,.l0 (Nat.zero_le _) (je.1 h0) (by unfold lnT;rw [h0];rfl) (fun R=>by unfold lkT;rw [h0];rfl)⟩
 | false=>
   cases h1:Nat.blt n 72 with
   | true=>exact ⟨1,.l1 (by have:=mt je.2 (by rw [h0];simp);omega) (je.1 h1) (by unfold lnT;rw [h0,h1];rfl) (fun R=>by unfold lkT;rw [h0,h1];rfl)⟩
   | false=>
     cases h2:Nat.blt n 584 with
     | true=>exact ⟨2,.l2 (by have:=mt je.2 (by rw [h1];simp);omega) (je.1 h2) (by unfold lnT;rw [h0,h1,h2];rfl) (fun R=>by unfold lkT;rw [h0,h1,h2];rfl)⟩
     | false=>
       cases h3:Nat.blt n 4680 with
       | true=>exact ⟨3,.l3 (by have:=mt je.2 (by rw [h2];simp);omega) (je.1 h3) (by unfold lnT;rw [h0,h1,h2,h3];rfl) (fun R=>by unfold lkT;rw [h0,h1,h2,h3];rfl)⟩
       | false=>
         cases h4:Nat.blt n 37448 with
         | true=>exact ⟨4,.l4 (by have:=mt je.2 (by rw [h3];simp);omega) (je.1 h4) (by unfold lnT;rw [h0,h1,h2,h3,h4];rfl) (fun R=>by unfold lkT;rw [h0,h1,h2,h3,h4];rfl)⟩
         | false=>
           cases h5:Nat.blt n 299592 with
           | true=>exact ⟨5,.l5 (by have:=mt je.2 (by rw [h4];simp);omega) (je.1 h5) (by unfold lnT;rw [h0,h1,h2,h3,h4,h5];rfl) (fun R=>by unfold lkT;rw [h0,h1,h2,h3,h4,h5];rfl)⟩
           | false=>
             cases h6:Nat.blt n 2396744 with
             | true=>exact ⟨6,.l6 (by have:=mt je.2 (by rw [h5];simp);omega) (je.1 h6) (by unfold lnT;rw [h0,h1,h2,h3,h4,h5,h6];rfl) (fun R=>by unfold lkT;rw [h0,h1,h2,h3,h4,h5,h6];rfl)⟩
             | false=>
               exact ⟨7,.o (by have:=mt je.2 (by rw [h6];simp);omega) (by unfold lnT;rw [h0,h1,h2,h3,h4,h5,h6]) (fun R=>by unfold lkT;rw [h0,h1,h2,h3,h4,h5,h6])⟩
theorem anx {α:Type} {l:Ln (Lv (Option α) 1) (Option α)} (h:l.Ok):(nT l).Ok:=⟨fun t v=>h.gp t.n0 v⟩
theorem anF {α R:Type} {k:Lw (Lv (Option α) 1) (Option α) R} {l:Ln (Lv (Option α) 1) (Option α)} (h:k.Of l):(ah6 k).Of (nT l):=fun t v K=>h t.n0 v _
theorem al0 {α:Type} {l l':Ln (Lv (Option α) 1) (Option α)} (h:l.Dis l'):(nT l).Dis (nT l'):=fun t v=>h t.n0 v
theorem anM {α:Type} {l:Ln (Lv (Option α) 1) (Option α)} (h:l.get (lvE none 1)=none):(nT l).get .lf=none:=h
theorem anw {α:Type} {l:Ln (Lv (Option α) 2) (Option α)} (h:l.Ok):(nS l).Ok:=⟨fun t v=>h.gp t.n1 v⟩
theorem anE {α R:Type} {k:Lw (Lv (Option α) 2) (Option α) R} {l:Ln (Lv (Option α) 2) (Option α)} (h:k.Of l):(ah5 k).Of (nS l):=fun t v K=>h t.n1 v _
theorem alZ {α:Type} {l l':Ln (Lv (Option α) 2) (Option α)} (h:l.Dis l'):(nS l).Dis (nS l'):=fun t v=>h t.n1 v
theorem anL {α:Type} {l:Ln (Lv (Option α) 2) (Option α)} (h:l.get (lvE none 2)=none):(nS l).get .lf=none:=h
theorem anv {α:Type} {l:Ln (Lv (Option α) 3) (Option α)} (h:l.Ok):(nR l).Ok:=⟨fun t v=>h.gp t.n2 v⟩
theorem anD {α R:Type} {k:Lw (Lv (Option α) 3) (Option α) R} {l:Ln (Lv (Option α) 3) (Option α)} (h:k.Of l):(ah4 k).Of (nR l):=fun t v K=>h t.n2 v _
theorem alY {α:Type} {l l':Ln (Lv (Option α) 3) (Option α)} (h:l.Dis l'):(nR l).Dis (nR l'):=fun t v=>h t.n2 v
theorem anK {α:Type} {l:Ln (Lv (Option α) 3) (Option α)} (h:l.get (lvE none 3)=none):(nR l).get .lf=none:=h
theorem anu {α:Type} {l:Ln (Lv (Option α) 4) (Option α)} (h:l.Ok):(nP l).Ok:=⟨fun t v=>h.gp t.n3 v⟩
theorem anC {α R:Type} {k:Lw (Lv (Option α) 4) (Option α) R} {l:Ln (Lv (Option α) 4) (Option α)} (h:k.Of l):(ah3 k).Of (nP l):=fun t v K=>h t.n3 v _
theorem alX {α:Type} {l l':Ln (Lv (Option α) 4) (Option α)} (h:l.Dis l'):(nP l).Dis (nP l'):=fun t v=>h t.n3 v
theorem anJ {α:Type} {l:Ln (Lv (Option α) 4) (Option α)} (h:l.get (lvE none 4)=none):(nP l).get .lf=none:=h
theorem ant {α:Type} {l:Ln (Lv (Option α) 5) (Option α)} (h:l.Ok):(nO l).Ok:=⟨fun t v=>h.gp t.n4 v⟩
theorem anB {α R:Type} {k:Lw (Lv (Option α) 5) (Option α) R} {l:Ln (Lv (Option α) 5) (Option α)} (h:k.Of l):(ah2 k).Of (nO l):=fun t v K=>h t.n4 v _
theorem alW {α:Type} {l l':Ln (Lv (Option α) 5) (Option α)} (h:l.Dis l'):(nO l).Dis (nO l'):=fun t v=>h t.n4 v
theorem anI {α:Type} {l:Ln (Lv (Option α) 5) (Option α)} (h:l.get (lvE none 5)=none):(nO l).get .lf=none:=h
theorem anr {α:Type} {l:Ln (Lv (Option α) 6) (Option α)} (h:l.Ok):(nN l).Ok:=⟨fun t v=>h.gp t.n5 v⟩
theorem anA {α R:Type} {k:Lw (Lv (Option α) 6) (Option α) R} {l:Ln (Lv (Option α) 6) (Option α)} (h:k.Of l):(ah1 k).Of (nN l):=fun t v K=>h t.n5 v _
theorem alV {α:Type} {l l':Ln (Lv (Option α) 6) (Option α)} (h:l.Dis l'):(nN l).Dis (nN l'):=fun t v=>h t.n5 v
theorem anH {α:Type} {l:Ln (Lv (Option α) 6) (Option α)} (h:l.get (lvE none 6)=none):(nN l).get .lf=none:=h
theorem anq {α:Type} {l:Ln (Lv (Option α) 7) (Option α)} (h:l.Ok):(nM l).Ok:=⟨fun t v=>h.gp t.n6 v⟩
theorem anz {α R:Type} {k:Lw (Lv (Option α) 7) (Option α) R} {l:Ln (Lv (Option α) 7) (Option α)} (h:k.Of l):(ah0 k).Of (nM l):=fun t v K=>h t.n6 v _
theorem alU {α:Type} {l l':Ln (Lv (Option α) 7) (Option α)} (h:l.Dis l'):(nM l).Dis (nM l'):=fun t v=>h t.n6 v
theorem anG {α:Type} {l:Ln (Lv (Option α) 7) (Option α)} (h:l.get (lvE none 7)=none):(nM l).get .lf=none:=h
theorem ajT {α:Type} {x:Ln (Lv (Option α) 1) (Option α)} {y:Ln (Lv (Option α) 2) (Option α)}:(nT x).Dis (nS y):=fun _ _=>rfl
theorem ajS {α:Type} {x:Ln (Lv (Option α) 1) (Option α)} {y:Ln (Lv (Option α) 3) (Option α)}:(nT x).Dis (nR y):=fun _ _=>rfl
theorem ajR {α:Type} {x:Ln (Lv (Option α) 1) (Option α)} {y:Ln (Lv (Option α) 4) (Option α)}:(nT x).Dis (nP y):=fun _ _=>rfl
theorem ajQ {α:Type} {x:Ln (Lv (Option α) 1) (Option α)} {y:Ln (Lv (Option α) 5) (Option α)}:(nT x).Dis (nO y):=fun _ _=>rfl
theorem ajP {α:Type} {x:Ln (Lv (Option α) 1) (Option α)} {y:Ln (Lv (Option α) 6) (Option α)}:(nT x).Dis (nN y):=fun _ _=>rfl
theorem ajO {α:Type} {x:Ln (Lv (Option α) 1) (Option α)} {y:Ln (Lv (Option α) 7) (Option α)}:(nT x).Dis (nM y):=fun _ _=>rfl
theorem ajN {α:Type} {x:Ln (Lv (Option α) 1) (Option α)} {y:Nat}:(nT x).Dis ((tH y:Ln (Tr α) (Option α))):=fun _ _=>rfl
theorem ajM {α:Type} {x:Ln (Lv (Option α) 2) (Option α)} {y:Ln (Lv (Option α) 1) (Option α)}:(nS x).Dis (nT y):=fun _ _=>rfl
theorem ajL {α:Type} {x:Ln (Lv (Option α) 2) (Option α)} {y:Ln (Lv (Option α) 3) (Option α)}:(nS x).Dis (nR y):=fun _ _=>rfl
theorem ajK {α:Type} {x:Ln (Lv (Option α) 2) (Option α)} {y:Ln (Lv (Option α) 4) (Option α)}:(nS x).Dis (nP y):=fun _ _=>rfl
theorem ajJ {α:Type} {x:Ln (Lv (Option α) 2) (Option α)} {y:Ln (Lv (Option α) 5) (Option α)}:(nS x).Dis (nO y):=fun _ _=>rfl
theorem ajI {α:Type} {x:Ln (Lv (Option α) 2) (Option α)} {y:Ln (Lv (Option α) 6) (Option α)}:(nS x).Dis (nN y):=fun _ _=>rfl
theorem ajH {α:Type} {x:Ln (Lv (Option α) 2) (Option α)} {y:Ln (Lv (Option α) 7) (Option α)}:(nS x).Dis (nM y):=fun _ _=>rfl
theorem ajG {α:Type} {x:Ln (Lv (Option α) 2) (Option α)} {y:Nat}:(nS x).Dis ((tH y:Ln (Tr α) (Option α))):=fun _ _=>rfl
theorem ajF {α:Type} {x:Ln (Lv (Option α) 3) (Option α)} {y:Ln (Lv (Option α) 1) (Option α)}:(nR x).Dis (nT y):=fun _ _=>rfl
theorem ajE {α:Type} {x:Ln (Lv (Option α) 3) (Option α)} {y:Ln (Lv (Option α) 2) (Option α)}:(nR x).Dis (nS y):=fun _ _=>rfl
theorem ajD {α:Type} {x:Ln (Lv (Option α) 3) (Option α)} {y:Ln (Lv (Option α) 4) (Option α)}:(nR x).Dis (nP y):=fun _ _=>rfl
theorem ajC {α:Type} {x:Ln (Lv (Option α) 3) (Option α)} {y:Ln (Lv (Option α) 5) (Option α)}:(nR x).Dis (nO y):=fun _ _=>rfl
theorem ajB {α:Type} {x:Ln (Lv (Option α) 3) (Option α)} {y:Ln (Lv (Option α) 6) (Option α)}:(nR x).Dis (nN y):=fun _ _=>rfl
theorem ajA {α:Type} {x:Ln (Lv (Option α) 3) (Option α)} {y:Ln (Lv (Option α) 7) (Option α)}:(nR x).Dis (nM y):=fun _ _=>rfl
theorem ajz {α:Type} {x:Ln (Lv (Option α) 3) (Option α)} {y:Nat}:(nR x).Dis ((tH y:Ln (Tr α) (Option α))):=fun _ _=>rfl
theorem ajy {α:Type} {x:Ln (Lv (Option α) 4) (Option α)} {y:Ln (Lv (Option α) 1) (Option α)}:(nP x).Dis (nT y):=fun _ _=>rfl
theorem ajx {α:Type} {x:Ln (Lv (Option α) 4) (Option α)} {y:Ln (Lv (Option α) 2) (Option α)}:(nP x).Dis (nS y):=fun _ _=>rfl
theorem ajw {α:Type} {x:Ln (Lv (Option α) 4) (Option α)} {y:Ln (Lv (Option α) 3) (Option α)}:(nP x).Dis (nR y):=fun _ _=>rfl
theorem ajv {α:Type} {x:Ln (Lv (Option α) 4) (Option α)} {y:Ln (Lv (Option α) 5) (Option α)}:(nP x).Dis (nO y):=fun _ _=>rfl
theorem aju {α:Type} {x:Ln (Lv (Option α) 4) (Option α)} {y:Ln (Lv (Option α) 6) (Option α)}:(nP x).Dis (nN y):=fun _ _=>rfl
theorem ajt {α:Type} {x:Ln (Lv (Option α) 4) (Option α)} {y:Ln (Lv (Option α) 7) (Option α)}:(nP x).Dis (nM y):=fun _ _=>rfl
theorem ajs {α:Type} {x:Ln (Lv (Option α) 4) (Option α)} {y:Nat}:(nP x).Dis ((tH y:Ln (Tr α) (Option α))):=fun _ _=>rfl
theorem ajr {α:Type} {x:Ln (Lv (Option α) 5) (Option α)} {y:Ln (Lv (Option α) 1) (Option α)}:(nO x).Dis (nT y):=fun _ _=>rfl
theorem ajq {α:Type} {x:Ln (Lv (Option α) 5) (Option α)} {y:Ln (Lv (Option α) 2) (Option α)}:(nO x).Dis (nS y):=fun _ _=>rfl
theorem ajp {α:Type} {x:Ln (Lv (Option α) 5) (Option α)} {y:Ln (Lv (Option α) 3) (Option α)}:(nO x).Dis (nR y):=fun _ _=>rfl
theorem ajo {α:Type} {x:Ln (Lv (Option α) 5) (Option α)} {y:Ln (Lv (Option α) 4) (Option α)}:(nO x).Dis (nP y):=fun _ _=>rfl
theorem ajn {α:Type} {x:Ln (Lv (Option α) 5) (Option α)} {y:Ln (Lv (Option α) 6) (Option α)}:(nO x).Dis (nN y):=fun _ _=>rfl
theorem ajm {α:Type} {x:Ln (Lv (Option α) 5) (Option α)} {y:Ln (Lv (Option α) 7) (Option α)}:(nO x).Dis (nM y):=fun _ _=>rfl
theorem ajl {α:Type} {x:Ln (Lv (Option α) 5) (Option α)} {y:Nat}:(nO x).Dis ((tH y:Ln (Tr α) (Option α))):=fun _ _=>rfl
theorem ajk {α:Type} {x:Ln (Lv (Option α) 6) (Option α)} {y:Ln (Lv (Option α) 1) (Option α)}:(nN x).Dis (nT y):=fun _ _=>rfl
theorem ajj {α:Type} {x:Ln (Lv (Option α) 6) (Option α)} {y:Ln (Lv (Option α) 2) (Option α)}:(nN x).Dis (nS y):=fun _ _=>rfl
theorem aji {α:Type} {x:Ln (Lv (Option α) 6) (Option α)} {y:Ln (Lv (Option α) 3) (Option α)}:(nN x).Dis (nR y):=fun _ _=>rfl
theorem ajh {α:Type} {x:Ln (Lv (Option α) 6) (Option α)} {y:Ln (Lv (Option α) 4) (Option α)}:(nN x).Dis (nP y):=fun _ _=>rfl
theorem ajg {α:Type} {x:Ln (Lv (Option α) 6) (Option α)} {y:Ln (Lv (Option α) 5) (Option α)}:(nN x).Dis (nO y):=fun _ _=>rfl
theorem ajf {α:Type} {x:Ln (Lv (Option α) 6) (Option α)} {y:Ln (Lv (Option α) 7) (Option α)}:(nN x).Dis (nM y):=fun _ _=>rfl
theorem aje {α:Type} {x:Ln (Lv (Option α) 6) (Option α)} {y:Nat}:(nN x).Dis ((tH y:Ln (Tr α) (Option α))):=fun _ _=>rfl
theorem ajd {α:Type} {x:Ln (Lv (Option α) 7) (Option α)} {y:Ln (Lv (Option α) 1) (Option α)}:(nM x).Dis (nT y):=fun _ _=>rfl
theorem ajc {α:Type} {x:Ln (Lv (Option α) 7) (Option α)} {y:Ln (Lv (Option α) 2) (Option α)}:(nM x).Dis (nS y):=fun _ _=>rfl
theorem ajb {α:Type} {x:Ln (Lv (Option α) 7) (Option α)} {y:Ln (Lv (Option α) 3) (Option α)}:(nM x).Dis (nR y):=fun _ _=>rfl
theorem aja {α:Type} {x:Ln (Lv (Option α) 7) (Option α)} {y:Ln (Lv (Option α) 4) (Option α)}:(nM x).Dis (nP y):=fun _ _=>rfl
theorem ai9 {α:Type} {x:Ln (Lv (Option α) 7) (Option α)} {y:Ln (Lv (Option α) 5) (Option α)}:(nM x).Dis (nO y):=fun _ _=>rfl
theorem ai8 {α:Type} {x:Ln (Lv (Option α) 7) (Option α)} {y:Ln (Lv (Option α) 6) (Option α)}:(nM x).Dis (nN y):=fun _ _=>rfl
theorem ai7 {α:Type} {x:Ln (Lv (Option α) 7) (Option α)} {y:Nat}:(nM x).Dis ((tH y:Ln (Tr α) (Option α))):=fun _ _=>rfl
theorem ai6 {α:Type} {x:Nat} {y:Ln (Lv (Option α) 1) (Option α)}:((tH x:Ln (Tr α) (Option α))).Dis (nT y):=fun _ _=>rfl
theorem ai5 {α:Type} {x:Nat} {y:Ln (Lv (Option α) 2) (Option α)}:((tH x:Ln (Tr α) (Option α))).Dis (nS y):=fun _ _=>rfl
theorem ai4 {α:Type} {x:Nat} {y:Ln (Lv (Option α) 3) (Option α)}:((tH x:Ln (Tr α) (Option α))).Dis (nR y):=fun _ _=>rfl
theorem ai3 {α:Type} {x:Nat} {y:Ln (Lv (Option α) 4) (Option α)}:((tH x:Ln (Tr α) (Option α))).Dis (nP y):=fun _ _=>rfl
theorem ai2 {α:Type} {x:Nat} {y:Ln (Lv (Option α) 5) (Option α)}:((tH x:Ln (Tr α) (Option α))).Dis (nO y):=fun _ _=>rfl
theorem ai1 {α:Type} {x:Nat} {y:Ln (Lv (Option α) 6) (Option α)}:((tH x:Ln (Tr α) (Option α))).Dis (nN y):=fun _ _=>rfl
theorem ai0 {α:Type} {x:Nat} {y:Ln (Lv (Option α) 7) (Option α)}:((tH x:Ln (Tr α) (Option α))).Dis (nM y):=fun _ _=>rfl
theorem okT (α:Type) (n:Nat):(lnT α n).Ok:=by
 obtain ⟨i,h⟩:=at_ α n
 cases h with
 | l0 _ _ e _=>rw [e];exact anx (okL (Option α) 1 (n-0))
 | l1 _ _ e _=>rw [e];exact anw (okL (Option α) 2 (n-8))
 | l2 _ _ e _=>rw [e];exact anv (okL (Option α) 3 (n-72))
 | l3 _ _ e _=>rw [e];exact anu (okL (Option α) 4 (n-584))
 | l4 _ _ e _=>rw [e];exact ant (okL (Option α) 5 (n-4680))
 | l5 _ _ e _=>rw [e];exact anr (okL (Option α) 6 (n-37448))
 | l6 _ _ e _=>rw [e];exact anq (okL (Option α) 7 (n-299592))
 | o _ e _=>rw [e];exact ⟨fun t v=>by show cond (Nat.beq n n) v _=v;rw [Nat.beq_refl];rfl⟩
theorem ofT (α R:Type) (n:Nat):(lkT α R n).Of (lnT α n):=by
 obtain ⟨i,h⟩:=at_ α n
 cases h with
 | l0 _ _ e e'=>rw [e,e'];exact anF (ofL (Option α) R 1 (n-0))
 | l1 _ _ e e'=>rw [e,e'];exact anE (ofL (Option α) R 2 (n-8))
 | l2 _ _ e e'=>rw [e,e'];exact anD (ofL (Option α) R 3 (n-72))
 | l3 _ _ e e'=>rw [e,e'];exact anC (ofL (Option α) R 4 (n-584))
 | l4 _ _ e e'=>rw [e,e'];exact anB (ofL (Option α) R 5 (n-4680))
 | l5 _ _ e e'=>rw [e,e'];exact anA (ofL (Option α) R 6 (n-37448))
 | l6 _ _ e e'=>rw [e,e'];exact anz (ofL (Option α) R 7 (n-299592))
 | o _ e e'=>rw [e,e'];exact fun t v K=>rfl
theorem anU (α:Type) {m n:Nat} (hmn:m≠n):(lnT α m).Dis (lnT α n):=by
 obtain ⟨i,h⟩:=at_ α m
 obtain ⟨j,h'⟩:=at_ α n
 cases h with
 | l0 a1 a2 e _=>
   rw [e]
   cases h' with
   | l0 b1 b2 e2 _=>rw [e2];exact al0 (NH (Option α) 1 (m-0) (n-0) (by omega) (by omega) (by omega))
   | l1 b1 b2 e2 _=>rw [e2];exact ajT
   | l2 b1 b2 e2 _=>rw [e2];exact ajS
   | l3 b1 b2 e2 _=>rw [e2];exact ajR
   | l4 b1 b2 e2 _=>rw [e2];exact ajQ
   | l5 b1 b2 e2 _=>rw [e2];exact ajP
   | l6 b1 b2 e2 _=>rw [e2];exact ajO
   | o b1 e2 _=>rw [e2];exact ajN
 | l1 a1 a2 e _=>
   rw [e]
   cases h' with
   | l0 b1 b2 e2 _=>rw [e2];exact ajM
   | l1 b1 b2 e2 _=>rw [e2];exact alZ (NH (Option α) 2 (m-8) (n-8) (by omega) (by omega) (by omega))
   | l2 b1 b2 e2 _=>rw [e2];exact ajL
   | l3 b1 b2 e2 _=>rw [e2];exact ajK
   | l4 b1 b2 e2 _=>rw [e2];exact ajJ
   | l5 b1 b2 e2 _=>rw [e2];exact ajI
   | l6 b1 b2 e2 _=>rw [e2];exact ajH
   | o b1 e2 _=>rw [e2];exact ajG
 | l2 a1 a2 e _=>
   rw [e]
   cases h' with
   | l0 b1 b2 e2 _=>rw [e2];exact ajF
   | l1 b1 b2 e2 _=>rw [e2];exact ajE
   | l2 b1 b2 e2 _=>rw [e2];exact alY (NH (Option α) 3 (m-72) (n-72) (by omega) (by omega) (by omega))
   | l3 b1 b2 e2 _=>rw [e2];exact ajD
   | l4 b1 b2 e2 _=>rw [e2];exact ajC
   | l5 b1 b2 e2 _=>rw [e2];exact ajB
   | l6 b1 b2 e2 _=>rw [e2];exact ajA
   | o b1 e2 _=>rw [e2];exact ajz
 | l3 a1 a2 e _=>
   rw [e]
   cases h' with
   | l0 b1 b2 e2 _=>rw [e2];exact ajy
   | l1 b1 b2 e2 _=>rw [e2];exact ajx
   | l2 b1 b2 e2 _=>rw [e2];exact ajw
   | l3 b1 b2 e2 _=>rw [e2];exact alX (NH (Option α) 4 (m-584) (n-584) (by omega) (by omega) (by omega))
   | l4 b1 b2 e2 _=>rw [e2];exact ajv
   | l5 b1 b2 e2 _=>rw [e2];exact aju
   | l6 b1 b2 e2 _=>rw [e2];exact ajt
   | o b1 e2 _=>rw [e2];exact ajs
 | l4 a1 a2 e _=>
   rw [e]
   cases h' with
   | l0 b1 b2 e2 _=>rw [e2];exact ajr
   | l1 b1 b2 e2 _=>rw [e2];exact ajq
   | l2 b1 b2 e2 _=>rw [e2];exact ajp
   | l3 b1 b2 e2 _=>rw [e2];exact ajo
   | l4 b1 b2 e2 _=>rw [e2];exact alW (NH (Option α) 5 (m-4680) (n-4680) (by omega) (by omega) (by omega))
   | l5 b1 b2 e2 _=>rw [e2];exact ajn
   | l6 b1 b2 e2 _=>rw [e2];exact ajm
   | o b1 e2 _=>rw [e2];exact ajl
 | l5 a1 a2 e _=>
   rw [e]
   cases h' with
   | l0 b1 b2 e2 _=>rw [e2];exact ajk
   | l1 b1 b2 e2 _=>rw [e2];exact ajj
   | l2 b1 b2 e2 _=>rw [e2];exact aji
   | l3 b1 b2 e2 _=>rw [e2];exact ajh
   | l4 b1 b2 e2 _=>rw [e2];exact ajg
   | l5 b1 b2 e2 _=>rw [e2];exact alV (NH (Option α) 6 (m-37448) (n-37448) (by omega) (by omega) (by omega))
   | l6 b1 b2 e2 _=>rw [e2];exact ajf
   | o b1 e2 _=>rw [e2];exact aje
 | l6 a1 a2 e _=>
   rw [e]
   cases h' with
   | l0 b1 b2 e2 _=>rw [e2];exact ajd
   | l1 b1 b2 e2 _=>rw [e2];exact ajc
   | l2 b1 b2 e2 _=>rw [e2];exact ajb
   | l3 b1 b2 e2 _=>rw [e2];exact aja
   | l4 b1 b2 e2 _=>rw [e2];exact ai9
   | l5 b1 b2 e2 _=>rw [e2];exact ai8
   | l6 b1 b2 e2 _=>rw [e2];exact alU (NH (Option α) 7 (m-299592) (n-299592) (by omega) (by omega) (by omega))
   | o b1 e2 _=>rw [e2];exact ai7
 | o a1 e _=>
   rw [e]
   cases h' with
   | l0 b1 b2 e2 _=>rw [e2];exact ai6
   | l1 b1 b2 e2 _=>rw [e2];exact ai5
   | l2 b1 b2 e2 _=>rw [e2];exact ai4
   | l3 b1 b2 e2 _=>rw [e2];exact ai3
   | l4 b1 b2 e2 _=>rw [e2];exact ai2
   | l5 b1 b2 e2 _=>rw [e2];exact ai1
   | l6 b1 b2 e2 _=>rw [e2];exact ai0
   | o b1 e2 _=>rw [e2];exact fun t v=>by show cond (Nat.beq m n) v _=_;rw [show Nat.beq m n=false from Bool.eq_false_iff.2 fun h=>hmn (Nat.eq_of_beq_eq_true h)];rfl
theorem lfT (α:Type) (n:Nat):(lnT α n).get (.lf:Tr α)=none:=by
 obtain ⟨i,h⟩:=at_ α n
 cases h with
 | l0 _ _ e _=>rw [e];exact anM (lJ none 1 (n-0))
 | l1 _ _ e _=>rw [e];exact anL (lJ none 2 (n-8))
 | l2 _ _ e _=>rw [e];exact anK (lJ none 3 (n-72))
 | l3 _ _ e _=>rw [e];exact anJ (lJ none 4 (n-584))
 | l4 _ _ e _=>rw [e];exact anI (lJ none 5 (n-4680))
 | l5 _ _ e _=>rw [e];exact anH (lJ none 6 (n-37448))
 | l6 _ _ e _=>rw [e];exact anG (lJ none 7 (n-299592))
 | o _ e _=>rw [e];rfl
noncomputable def B.get {α:Type} (k:B) (t:Tr α):Option α:=(lnT α k.n).get t
noncomputable def B.put {α:Type} (k:B) (t:Tr α) (v:Option α):Tr α:=(lnT α k.n).put t v
noncomputable def B.jQ {α R:Type} (k:B) (t:Tr α) (v:Option α) (K:Tr α→R):R:=(lkT α R k.n).set t v K
def Jd (k:B):Nat:=k.n
noncomputable def B.acv {R:Type} (k:B) (K:B→R):R:=Nat.rec (motive:=fun _=>(B→R)→R) (fun K=>K ⟨0⟩) (fun p _ K=>K ⟨Nat.succ p⟩) (Nat.add k.n 1) K
def bOf (n:Nat):B:=⟨n⟩
end Go.Sim
