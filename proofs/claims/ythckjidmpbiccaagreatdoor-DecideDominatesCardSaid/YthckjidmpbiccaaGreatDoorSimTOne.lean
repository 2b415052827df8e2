/- Sim: keys and tries, made for evaluation by the kernel. (Printed by a program, gent.py.) -/
import Derived.Test.YthckjidmpbiccaaGreatDoorAbsO4One
set_option linter.unusedVariables false
set_option linter.unusedSimpArgs false
set_option linter.all false
namespace Go.Sim
structure B where
 n:Nat
 deriving Inhabited,DecidableEq
structure N8 (α:Type) where
 a:α
 b:α
 c:α
 d:α
 e:α
 f:α
 g:α
 h:α
structure Ln (S A:Type) where
 get:S→A
 put:S→A→S
structure Lw (S A R:Type) where
 set:S→A→(S→R)→R
def Ln.id (A:Type):Ln A A:=⟨fun t=>t,fun _ v=>v⟩
def Lw.id (A R:Type):Lw A A R:=⟨fun _ v K=>K v⟩
noncomputable def ln8 {S A:Type} (l:Ln S A) (i:Nat):Ln (N8 S) A:=
 Bool.rec (motive:=fun _=>Ln (N8 S) A) (Bool.rec (motive:=fun _=>Ln (N8 S) A) (Bool.rec (motive:=fun _=>Ln (N8 S) A) (Bool.rec (motive:=fun _=>Ln (N8 S) A) (Bool.rec (motive:=fun _=>Ln (N8 S) A) (Bool.rec (motive:=fun _=>Ln (N8 S) A) (Bool.rec (motive:=fun _=>Ln (N8 S) A) (⟨fun t=>l.get t.h,fun t v=>⟨t.a,t.b,t.c,t.d,t.e,t.f,t.g,l.put t.h v⟩⟩)
 ⟨fun t=>l.get t.g,fun t v=>⟨t.a,t.b,t.c,t.d,t.e,t.f,l.put t.g v,t.h⟩⟩ (Nat.beq i 6))
 ⟨fun t=>l.get t.f,fun t v=>⟨t.a,t.b,t.c,t.d,t.e,l.put t.f v,t.g,t.h⟩⟩ (Nat.beq i 5))
 ⟨fun t=>l.get t.e,fun t v=>⟨t.a,t.b,t.c,t.d,l.put t.e v,t.f,t.g,t.h⟩⟩ (Nat.beq i 4))
 ⟨fun t=>l.get t.d,fun t v=>⟨t.a,t.b,t.c,l.put t.d v,t.e,t.f,t.g,t.h⟩⟩ (Nat.beq i 3))
 ⟨fun t=>l.get t.c,fun t v=>⟨t.a,t.b,l.put t.c v,t.d,t.e,t.f,t.g,t.h⟩⟩ (Nat.beq i 2))
 ⟨fun t=>l.get t.b,fun t v=>⟨t.a,l.put t.b v,t.c,t.d,t.e,t.f,t.g,t.h⟩⟩ (Nat.beq i 1))
 ⟨fun t=>l.get t.a,fun t v=>⟨l.put t.a v,t.b,t.c,t.d,t.e,t.f,t.g,t.h⟩⟩ (Nat.beq i 0)
noncomputable def lk8 {S A R:Type} (l:Lw S A R) (i:Nat):Lw (N8 S) A R:=
 Bool.rec (motive:=fun _=>Lw (N8 S) A R) (Bool.rec (motive:=fun _=>Lw (N8 S) A R) (Bool.rec (motive:=fun _=>Lw (N8 S) A R) (Bool.rec (motive:=fun _=>Lw (N8 S) A R) (Bool.rec (motive:=fun _=>Lw (N8 S) A R) (Bool.rec (motive:=fun _=>Lw (N8 S) A R) (Bool.rec (motive:=fun _=>Lw (N8 S) A R) (⟨fun t v K=>N8.rec (motive:=fun _=>A→(N8 S→R)→R) (fun a b c d e f g h v K=>l.set h v fun x=>K ⟨a,b,c,d,e,f,g,x⟩) t v K⟩)
 ⟨fun t v K=>N8.rec (motive:=fun _=>A→(N8 S→R)→R) (fun a b c d e f g h v K=>l.set g v fun x=>K ⟨a,b,c,d,e,f,x,h⟩) t v K⟩ (Nat.beq i 6))
 ⟨fun t v K=>N8.rec (motive:=fun _=>A→(N8 S→R)→R) (fun a b c d e f g h v K=>l.set f v fun x=>K ⟨a,b,c,d,e,x,g,h⟩) t v K⟩ (Nat.beq i 5))
 ⟨fun t v K=>N8.rec (motive:=fun _=>A→(N8 S→R)→R) (fun a b c d e f g h v K=>l.set e v fun x=>K ⟨a,b,c,d,x,f,g,h⟩) t v K⟩ (Nat.beq i 4))
 ⟨fun t v K=>N8.rec (motive:=fun _=>A→(N8 S→R)→R) (fun a b c d e f g h v K=>l.set d v fun x=>K ⟨a,b,c,x,e,f,g,h⟩) t v K⟩ (Nat.beq i 3))
 ⟨fun t v K=>N8.rec (motive:=fun _=>A→(N8 S→R)→R) (fun a b c d e f g h v K=>l.set c v fun x=>K ⟨a,b,x,d,e,f,g,h⟩) t v K⟩ (Nat.beq i 2))
 ⟨fun t v K=>N8.rec (motive:=fun _=>A→(N8 S→R)→R) (fun a b c d e f g h v K=>l.set b v fun x=>K ⟨a,x,c,d,e,f,g,h⟩) t v K⟩ (Nat.beq i 1))
 ⟨fun t v K=>N8.rec (motive:=fun _=>A→(N8 S→R)→R) (fun a b c d e f g h v K=>l.set a v fun x=>K ⟨x,b,c,d,e,f,g,h⟩) t v K⟩ (Nat.beq i 0)
theorem jL (i:Nat):i=0∨i=1∨i=2∨i=3∨i=4∨i=5∨i=6∨(∃ m,i=m+7):=by
 rcases i with _ | _ | _ | _ | _ | _ | _ | m
 all_goals simp
structure Ln.Ok {S A:Type} (l:Ln S A):Prop where
 gp:∀ t v,l.get (l.put t v)=v
def Ln.Dis {S A B:Type} (l:Ln S A) (l':Ln S B):Prop:=∀ t v,l.get (l'.put t v)=l.get t
def Lw.Of {S A R:Type} (k:Lw S A R) (l:Ln S A):Prop:=∀ t v K,k.set t v K=K (l.put t v)
theorem ok8 {S A:Type} {l:Ln S A} (h:l.Ok) (i:Nat):(ln8 l i).Ok:=by
 rcases jL i with rfl | rfl | rfl | rfl | rfl | rfl | rfl | ⟨m,rfl⟩<;>exact ⟨fun t v=>h.gp _ v⟩
theorem of8 {S A R:Type} {k:Lw S A R} {l:Ln S A} (h:k.Of l) (i:Nat):(lk8 k i).Of (ln8 l i):=by
 rcases jL i with rfl | rfl | rfl | rfl | rfl | rfl | rfl | ⟨m,rfl⟩<;>exact fun t v K=>h _ v _
theorem al7 {S A B:Type} {l:Ln S A} {l':Ln S B} (i:Nat) (h:l.Dis l'):(ln8 l i).Dis (ln8 l' i):=by
 rcases jL i with rfl | rfl | rfl | rfl | rfl | rfl | rfl | ⟨m,rfl⟩<;>exact fun t v=>h _ v
theorem aki {S A B:Type} (l:Ln S A) (l':Ln S B) {i j:Nat} (h:i≠j) (hi:i<8) (hj:j<8):(ln8 l i).Dis (ln8 l' j):=by
 rcases jL i with rfl | rfl | rfl | rfl | rfl | rfl | rfl | ⟨m,rfl⟩<;>rcases jL j with rfl | rfl | rfl | rfl | rfl | rfl | rfl | ⟨m',rfl⟩ <;>
  first | exact fun t v=>rfl | exact absurd rfl h | omega
def Lv (A:Type):Nat→Type
 | 0=>A
 | k+1=>N8 (Lv A k)
noncomputable def e8 {S:Type} (x:S):N8 S:=⟨x,x,x,x,x,x,x,x⟩
noncomputable def lvE {A:Type} (x:A) (k:Nat):Lv A k:=Nat.rec (motive:=fun k=>Lv A k) x (fun _ ih=>e8 ih) k
noncomputable def lnL (A:Type) (k:Nat):Nat→Ln (Lv A k) A:=
 Nat.rec (motive:=fun k=>Nat→Ln (Lv A k) A) (fun _=>Ln.id A) (fun _ ih n=>ln8 (ih (Nat.div n 8)) (Nat.mod n 8)) k
noncomputable def lkL (A R:Type) (k:Nat):Nat→Lw (Lv A k) A R:=
 Nat.rec (motive:=fun k=>Nat→Lw (Lv A k) A R) (fun _=>Lw.id A R) (fun _ ih n=>lk8 (ih (Nat.div n 8)) (Nat.mod n 8)) k
theorem okL (A:Type):∀ k n,(lnL A k n).Ok
 | 0,_=>⟨fun _ _=>rfl⟩
 | k+1,n=>ok8 (okL A k (n / 8)) (n % 8)
theorem ofL (A R:Type):∀ k n,(lkL A R k n).Of (lnL A k n)
 | 0,_=>fun _ _ _=>rfl
 | k+1,n=>of8 (ofL A R k (n / 8)) (n % 8)
theorem J7 (A:Type):∀ k m n,m≠n→m<8 ^ k→n<8 ^ k→(lnL A k m).Dis (lnL A k n)
 | 0,m,n,h,hm,hn=>by simp at hm hn;omega
 | k+1,m,n,h,hm,hn=>by
   rw [Nat.pow_succ] at hm hn
   show (ln8 (lnL A k (m / 8)) (m % 8)).Dis (ln8 (lnL A k (n / 8)) (n % 8))
   by_cases he:m % 8=n % 8
   ·rw [he];exact al7 _ (J7 A k _ _ (by omega) (by omega) (by omega))
   ·exact aki _ _ he (by omega) (by omega)
theorem jZ {A:Type} (x:A):∀ k n,(lnL A k n).get (lvE x k)=x
 | 0,_=>rfl
 | k+1,n=>by
   show (ln8 (lnL A k (n / 8)) (n % 8)).get (e8 (lvE x k))=x
   rcases jL (n % 8) with h | h | h | h | h | h | h | ⟨m,h⟩<;>rw [h]<;>exact jZ x k _
structure Tr (α:Type) where
 n0:Lv (Option α) 1
 n1:Lv (Option α) 2
 n2:Lv (Option α) 3
 n3:Lv (Option α) 4
 n4:Lv (Option α) 5
 n5:Lv (Option α) 6
 n6:Lv (Option α) 7
 ov:Nat→Option α
noncomputable def Tr.lf {α:Type}:Tr α:=⟨lvE none 1,lvE none 2,lvE none 3,lvE none 4,lvE none 5,lvE none 6,lvE none 7,fun _=>none⟩
noncomputable instance {α:Type}:Inhabited (Tr α):=⟨.lf⟩
def lM {α:Type} (l:Ln (Lv (Option α) 1) (Option α)):Ln (Tr α) (Option α):=⟨fun t=>l.get t.n0,fun t v=>⟨l.put t.n0 v,t.n1,t.n2,t.n3,t.n4,t.n5,t.n6,t.ov⟩⟩
noncomputable def agb {α R:Type} (l:Lw (Lv (Option α) 1) (Option α) R):Lw (Tr α) (Option α) R:=⟨fun t v K=>Tr.rec (motive:=fun _=>Option α→(Tr α→R)→R) (fun n0 n1 n2 n3 n4 n5 n6 ov v K=>l.set n0 v fun x=>K ⟨x,n1,n2,n3,n4,n5,n6,ov⟩) t v K⟩
def lK {α:Type} (l:Ln (Lv (Option α) 2) (Option α)):Ln (Tr α) (Option α):=⟨fun t=>l.get t.n1,fun t v=>⟨t.n0,l.put t.n1 v,t.n2,t.n3,t.n4,t.n5,t.n6,t.ov⟩⟩
noncomputable def aga {α R:Type} (l:Lw (Lv (Option α) 2) (Option α) R):Lw (Tr α) (Option α) R:=⟨fun t v K=>Tr.rec (motive:=fun _=>Option α→(Tr α→R)→R) (fun n0 n1 n2 n3 n4 n5 n6 ov v K=>l.set n1 v fun x=>K ⟨n0,x,n2,n3,n4,n5,n6,ov⟩) t v K⟩
def lJ {α:Type} (l:Ln (Lv (Option α) 3) (Option α)):Ln (Tr α) (Option α):=⟨fun t=>l.get t.n2,fun t v=>⟨t.n0,t.n1,l.put t.n2 v,t.n3,t.n4,t.n5,t.n6,t.ov⟩⟩
noncomputable def af9 {α R:Type} (l:Lw (Lv (Option α) 3) (Option α) R):Lw (Tr α) (Option α) R:=⟨fun t v K=>Tr.rec (motive:=fun _=>Option α→(Tr α→R)→R) (fun n0 n1 n2 n3 n4 n5 n6 ov v K=>l.set n2 v fun x=>K ⟨n0,n1,x,n3,n4,n5,n6,ov⟩) t v K⟩
def lI {α:Type} (l:Ln (Lv (Option α) 4) (Option α)):Ln (Tr α) (Option α):=⟨fun t=>l.get t.n3,fun t v=>⟨t.n0,t.n1,t.n2,l.put t.n3 v,t.n4,t.n5,t.n6,t.ov⟩⟩
noncomputable def af8 {α R:Type} (l:Lw (Lv (Option α) 4) (Option α) R):Lw (Tr α) (Option α) R:=⟨fun t v K=>Tr.rec (motive:=fun _=>Option α→(Tr α→R)→R) (fun n0 n1 n2 n3 n4 n5 n6 ov v K=>l.set n3 v fun x=>K ⟨n0,n1,n2,x,n4,n5,n6,ov⟩) t v K⟩
def lH {α:Type} (l:Ln (Lv (Option α) 5) (Option α)):Ln (Tr α) (Option α):=⟨fun t=>l.get t.n4,fun t v=>⟨t.n0,t.n1,t.n2,t.n3,l.put t.n4 v,t.n5,t.n6,t.ov⟩⟩
noncomputable def af7 {α R:Type} (l:Lw (Lv (Option α) 5) (Option α) R):Lw (Tr α) (Option α) R:=⟨fun t v K=>Tr.rec (motive:=fun _=>Option α→(Tr α→R)→R) (fun n0 n1 n2 n3 n4 n5 n6 ov v K=>l.set n4 v fun x=>K ⟨n0,n1,n2,n3,x,n5,n6,ov⟩) t v K⟩
def lG {α:Type} (l:Ln (Lv (Option α) 6) (Option α)):Ln (Tr α) (Option α):=⟨fun t=>l.get t.n5,fun t v=>⟨t.n0,t.n1,t.n2,t.n3,t.n4,l.put t.n5 v,t.n6,t.ov⟩⟩
noncomputable def af6 {α R:Type} (l:Lw (Lv (Option α) 6) (Option α) R):Lw (Tr α) (Option α) R:=⟨fun t v K=>Tr.rec (motive:=fun _=>Option α→(Tr α→R)→R) (fun n0 n1 n2 n3 n4 n5 n6 ov v K=>l.set n5 v fun x=>K ⟨n0,n1,n2,n3,n4,x,n6,ov⟩) t v K⟩
def lF {α:Type} (l:Ln (Lv (Option α) 7) (Option α)):Ln (Tr α) (Option α):=⟨fun t=>l.get t.n6,fun t v=>⟨t.n0,t.n1,t.n2,t.n3,t.n4,t.n5,l.put t.n6 v,t.ov⟩⟩
noncomputable def af5 {α R:Type} (l:Lw (Lv (Option α) 7) (Option α) R):Lw (Tr α) (Option α) R:=⟨fun t v K=>Tr.rec (motive:=fun _=>Option α→(Tr α→R)→R) (fun n0 n1 n2 n3 n4 n5 n6 ov v K=>l.set n6 v fun x=>K ⟨n0,n1,n2,n3,n4,n5,x,ov⟩) t v K⟩
def qV {α:Type} (n:Nat):Ln (Tr α) (Option α):=⟨fun t=>t.ov n,fun t v=>⟨t.n0,t.n1,t.n2,t.n3,t.n4,t.n5,t.n6,fun i=>cond (Nat.beq i n) v (t.ov i)⟩⟩
noncomputable def aiC {α R:Type} (n:Nat):Lw (Tr α) (Option α) R:=⟨fun t v K=>Tr.rec (motive:=fun _=>R) (fun n0 n1 n2 n3 n4 n5 n6 ov=>K ⟨n0,n1,n2,n3,n4,n5,n6,fun i=>cond (Nat.beq i n) v (ov i)⟩) t⟩
noncomputable def lnT (α:Type) (n:Nat):Ln (Tr α) (Option α):=
 Bool.rec (motive:=fun _=>Ln (Tr α) (Option α)) (Bool.rec (motive:=fun _=>Ln (Tr α) (Option α)) (Bool.rec (motive:=fun _=>Ln (Tr α) (Option α)) (Bool.rec (motive:=fun _=>Ln (Tr α) (Option α)) (Bool.rec (motive:=fun _=>Ln (Tr α) (Option α)) (Bool.rec (motive:=fun _=>Ln (Tr α) (Option α)) (Bool.rec (motive:=fun _=>Ln (Tr α) (Option α)) (qV n)
 (lF (lnL (Option α) 7 (Nat.sub n 299592))) (Nat.blt n 2396744))
 (lG (lnL (Option α) 6 (Nat.sub n 37448))) (Nat.blt n 299592))
 (lH (lnL (Option α) 5 (Nat.sub n 4680))) (Nat.blt n 37448))
 (lI (lnL (Option α) 4 (Nat.sub n 584))) (Nat.blt n 4680))
 (lJ (lnL (Option α) 3 (Nat.sub n 72))) (Nat.blt n 584))
 (lK (lnL (Option α) 2 (Nat.sub n 8))) (Nat.blt n 72))
 (lM (lnL (Option α) 1 (Nat.sub n 0))) (Nat.blt n 8)
noncomputable def lkT (α R:Type) (n:Nat):Lw (Tr α) (Option α) R:=
 Bool.rec (motive:=fun _=>Lw (Tr α) (Option α) R) (Bool.rec (motive:=fun _=>Lw (Tr α) (Option α) R) (Bool.rec (motive:=fun _=>Lw (Tr α) (Option α) R) (Bool.rec (motive:=fun _=>Lw (Tr α) (Option α) R) (Bool.rec (motive:=fun _=>Lw (Tr α) (Option α) R) (Bool.rec (motive:=fun _=>Lw (Tr α) (Option α) R) (Bool.rec (motive:=fun _=>Lw (Tr α) (Option α) R) (aiC n)
 (af5 (lkL (Option α) R 7 (Nat.sub n 299592))) (Nat.blt n 2396744))
 (af6 (lkL (Option α) R 6 (Nat.sub n 37448))) (Nat.blt n 299592))
 (af7 (lkL (Option α) R 5 (Nat.sub n 4680))) (Nat.blt n 37448))
 (af8 (lkL (Option α) R 4 (Nat.sub n 584))) (Nat.blt n 4680))
 (af9 (lkL (Option α) R 3 (Nat.sub n 72))) (Nat.blt n 584))
 (aga (lkL (Option α) R 2 (Nat.sub n 8))) (Nat.blt n 72))
 (agb (lkL (Option α) R 1 (Nat.sub n 0))) (Nat.blt n 8)
inductive At (α:Type) (n:Nat):Nat→Prop
 | l0:0≤n→n<8→lnT α n=lM (lnL (Option α) 1 (n-0))→(∀ R,lkT α R n=agb (lkL (Option α) R 1 (n-0)))→At α n 0
 | l1:8≤n→n<72→lnT α n=lK (lnL (Option α) 2 (n-8))→(∀ R,lkT α R n=aga (lkL (Option α) R 2 (n-8)))→At α n 1
 | l2:72≤n→n<584→lnT α n=lJ (lnL (Option α) 3 (n-72))→(∀ R,lkT α R n=af9 (lkL (Option α) R 3 (n-72)))→At α n 2
 | l3:584≤n→n<4680→lnT α n=lI (lnL (Option α) 4 (n-584))→(∀ R,lkT α R n=af8 (lkL (Option α) R 4 (n-584)))→At α n 3
 | l4:4680≤n→n<37448→lnT α n=lH (lnL (Option α) 5 (n-4680))→(∀ R,lkT α R n=af7 (lkL (Option α) R 5 (n-4680)))→At α n 4
 | l5:37448≤n→n<299592→lnT α n=lG (lnL (Option α) 6 (n-37448))→(∀ R,lkT α R n=af6 (lkL (Option α) R 6 (n-37448)))→At α n 5
 | l6:299592≤n→n<2396744→lnT α n=lF (lnL (Option α) 7 (n-299592))→(∀ R,lkT α R n=af5 (lkL (Option α) R 7 (n-299592)))→At α n 6
 | o:2396744≤n→lnT α n=qV n→(∀ R,lkT α R n=aiC n)→At α n 7
theorem iK {a b:Nat}:Nat.blt a b=true↔a<b:=⟨Nat.le_of_ble_eq_true,fun h=>Nat.ble_eq_true_of_le h⟩
theorem at_ (α:Type) (n:Nat):∃ i,At α n i:=by
 cases h0:Nat.blt n 8 with
 | true=>exact ⟨0,.l0 (Nat.zero_le _) (iK.1 h0) (by unfold lnT;rw [h0];rfl) (fun R=>by unfold lkT;rw [h0];rfl)⟩
 | false=>
   cases h1:Nat.blt n 72 with
   | true=>exact ⟨1,.l1 (by have:=mt iK.2 (by rw [h0];simp);omega) (iK.1 h1) (by unfold lnT;rw [h0,h1];rfl) (fun R=>by unfold lkT;rw [h0,h1];rfl)⟩
   | false=>
     cases h2:Nat.blt n 584 with
     | true=>exact ⟨2,.l2 (by have:=mt iK.2 (by rw [h1];simp);omega) (iK.1 h2) (by unfold lnT;rw [h0,h1,h2];rfl) (fun R=>by unfold lkT;rw [h0,h1,h2];rfl)⟩
     | false=>
       cases h3:Nat.blt n 4680 with
       | true=>exact ⟨3,.l3 (by have:=mt iK.2 (by rw [h2];simp);omega) (iK.1 h3) (by unfold lnT;rw [h0,h1,h2,h3];rfl) (fun R=>by unfold lkT;rw [h0,h1,h2,h3];rfl)⟩
       | false=>
         cases h4:Nat.blt n 37448 with
         | true=>exact ⟨4,.l4 (by have:=mt iK.2 (by rw [h3];simp);omega) (iK.1 h4) (by unfold lnT;rw [h0,h1,h2,h3,h4];rfl) (fun R=>by unfold lkT;rw [h0,h1,h2,h3,h4];rfl)⟩
         | false=>
           cases h5:Nat.blt n 299592 with
           | true=>exact ⟨5,.l5 (by have:=mt iK.2 (by rw [h4];simp);omega) (iK.1 h5) (by unfold lnT;rw [h0,h1,h2,h3,h4,h5];rfl) (fun R=>by unfold lkT;rw [h0,h1,h2,h3,h4,h5];rfl)⟩
           | false=>
             cases h6:Nat.blt n 2396744 with
             | true=>exact ⟨6,.l6 (by have:=mt iK.2 (by rw [h5];simp);omega) (iK.1 h6) (by unfold lnT;rw [h0,h1,h2,h3,h4,h5,h6];rfl) (fun R=>by unfold lkT;rw [h0,h1,h2,h3,h4,h5,h6];rfl)⟩
             | false=>
               exact ⟨7,.o (by have:=mt iK.2 (by rw [h6];simp);omega) (by unfold lnT;rw [h0,h1,h2,h3,h4,h5,h6]) (fun R=>by unfold lkT;rw [h0,h1,h2,h3,h4,h5,h6])⟩
theorem alO {α:Type} {l:Ln (Lv (Option α) 1) (Option α)} (h:l.Ok):(lM l).Ok:=⟨fun t v=>h.gp t.n0 v⟩
theorem alV {α R:Type} {k:Lw (Lv (Option α) 1) (Option α) R} {l:Ln (Lv (Option α) 1) (Option α)} (h:k.Of l):(agb k).Of (lM l):=fun t v K=>h t.n0 v _
theorem akh {α:Type} {l l':Ln (Lv (Option α) 1) (Option α)} (h:l.Dis l'):(lM l).Dis (lM l'):=fun t v=>h t.n0 v
theorem al2 {α:Type} {l:Ln (Lv (Option α) 1) (Option α)} (h:l.get (lvE none 1)=none):(lM l).get .lf=none:=h
theorem alN {α:Type} {l:Ln (Lv (Option α) 2) (Option α)} (h:l.Ok):(lK l).Ok:=⟨fun t v=>h.gp t.n1 v⟩
theorem alU {α R:Type} {k:Lw (Lv (Option α) 2) (Option α) R} {l:Ln (Lv (Option α) 2) (Option α)} (h:k.Of l):(aga k).Of (lK l):=fun t v K=>h t.n1 v _
theorem akg {α:Type} {l l':Ln (Lv (Option α) 2) (Option α)} (h:l.Dis l'):(lK l).Dis (lK l'):=fun t v=>h t.n1 v
theorem al1 {α:Type} {l:Ln (Lv (Option α) 2) (Option α)} (h:l.get (lvE none 2)=none):(lK l).get .lf=none:=h
theorem alM {α:Type} {l:Ln (Lv (Option α) 3) (Option α)} (h:l.Ok):(lJ l).Ok:=⟨fun t v=>h.gp t.n2 v⟩
theorem alT {α R:Type} {k:Lw (Lv (Option α) 3) (Option α) R} {l:Ln (Lv (Option α) 3) (Option α)} (h:k.Of l):(af9 k).Of (lJ l):=fun t v K=>h t.n2 v _
theorem akf {α:Type} {l l':Ln (Lv (Option α) 3) (Option α)} (h:l.Dis l'):(lJ l).Dis (lJ l'):=fun t v=>h t.n2 v
theorem al0 {α:Type} {l:Ln (Lv (Option α) 3) (Option α)} (h:l.get (lvE none 3)=none):(lJ l).get .lf=none:=h
theorem alL {α:Type} {l:Ln (Lv (Option α) 4) (Option α)} (h:l.Ok):(lI l).Ok:=⟨fun t v=>h.gp t.n3 v⟩
theorem alS {α R:Type} {k:Lw (Lv (Option α) 4) (Option α) R} {l:Ln (Lv (Option α) 4) (Option α)} (h:k.Of l):(af8 k).Of (lI l):=fun t v K=>h t.n3 v _
theorem ake {α:Type} {l l':Ln (Lv (Option α) 4) (Option α)} (h:l.Dis l'):(lI l).Dis (lI l'):=fun t v=>h t.n3 v
theorem alZ {α:Type} {l:Ln (Lv (Option α) 4) (Option α)} (h:l.get (lvE none 4)=none):(lI l).get .lf=none:=h
theorem alK {α:Type} {l:Ln (Lv (Option α) 5) (Option α)} (h:l.Ok):(lH l).Ok:=⟨fun t v=>h.gp t.n4 v⟩
theorem alR {α R:Type} {k:Lw (Lv (Option α) 5) (Option α) R} {l:Ln (Lv (Option α) 5) (Option α)} (h:k.Of l):(af7 k).Of (lH l):=fun t v K=>h t.n4 v _
theorem akd {α:Type} {l l':Ln (Lv (Option α) 5) (Option α)} (h:l.Dis l'):(lH l).Dis (lH l'):=fun t v=>h t.n4 v
theorem alY {α:Type} {l:Ln (Lv (Option α) 5) (Option α)} (h:l.get (lvE none 5)=none):(lH l).get .lf=none:=h
theorem alJ {α:Type} {l:Ln (Lv (Option α) 6) (Option α)} (h:l.Ok):(lG l).Ok:=⟨fun t v=>h.gp t.n5 v⟩
theorem alQ {α R:Type} {k:Lw (Lv (Option α) 6) (Option α) R} {l:Ln (Lv (Option α) 6) (Option α)} (h:k.Of l):(af6 k).Of (lG l):=fun t v K=>h t.n5 v _
theorem akc {α:Type} {l l':Ln (Lv (Option α) 6) (Option α)} (h:l.Dis l'):(lG l).Dis (lG l'):=fun t v=>h t.n5 v
theorem alX {α:Type} {l:Ln (Lv (Option α) 6) (Option α)} (h:l.get (lvE none 6)=none):(lG l).get .lf=none:=h
theorem alI {α:Type} {l:Ln (Lv (Option α) 7) (Option α)} (h:l.Ok):(lF l).Ok:=⟨fun t v=>h.gp t.n6 v⟩
theorem alP {α R:Type} {k:Lw (Lv (Option α) 7) (Option α) R} {l:Ln (Lv (Option α) 7) (Option α)} (h:k.Of l):(af5 k).Of (lF l):=fun t v K=>h t.n6 v _
theorem akb {α:Type} {l l':Ln (Lv (Option α) 7) (Option α)} (h:l.Dis l'):(lF l).Dis (lF l'):=fun t v=>h t.n6 v
theorem alW {α:Type} {l:Ln (Lv (Option α) 7) (Option α)} (h:l.get (lvE none 7)=none):(lF l).get .lf=none:=h
theorem ahW {α:Type} {x:Ln (Lv (Option α) 1) (Option α)} {y:Ln (Lv (Option α) 2) (Option α)}:(lM x).Dis (lK y):=fun _ _=>rfl
theorem ahV {α:Type} {x:Ln (Lv (Option α) 1) (Option α)} {y:Ln (Lv (Option α) 3) (Option α)}:(lM x).Dis (lJ y):=fun _ _=>rfl
theorem ahU {α:Type} {x:Ln (Lv (Option α) 1) (Option α)} {y:Ln (Lv (Option α) 4) (Option α)}:(lM x).Dis (lI y):=fun _ _=>rfl
theorem ahT {α:Type} {x:Ln (Lv (Option α) 1) (Option α)} {y:Ln (Lv (Option α) 5) (Option α)}:(lM x).Dis (lH y):=fun _ _=>rfl
theorem ahS {α:Type} {x:Ln (Lv (Option α) 1) (Option α)} {y:Ln (Lv (Option α) 6) (Option α)}:(lM x).Dis (lG y):=fun _ _=>rfl
theorem ahR {α:Type} {x:Ln (Lv (Option α) 1) (Option α)} {y:Ln (Lv (Option α) 7) (Option α)}:(lM x).Dis (lF y):=fun _ _=>rfl
theorem ahQ {α:Type} {x:Ln (Lv (Option α) 1) (Option α)} {y:Nat}:(lM x).Dis ((qV y:Ln (Tr α) (Option α))):=fun _ _=>rfl
theorem ahP {α:Type} {x:Ln (Lv (Option α) 2) (Option α)} {y:Ln (Lv (Option α) 1) (Option α)}:(lK x).Dis (lM y):=fun _ _=>rfl
theorem ahO {α:Type} {x:Ln (Lv (Option α) 2) (Option α)} {y:Ln (Lv (Option α) 3) (Option α)}:(lK x).Dis (lJ y):=fun _ _=>rfl
theorem ahN {α:Type} {x:Ln (Lv (Option α) 2) (Option α)} {y:Ln (Lv (Option α) 4) (Option α)}:(lK x).Dis (lI y):=fun _ _=>rfl
theorem ahM {α:Type} {x:Ln (Lv (Option α) 2) (Option α)} {y:Ln (Lv (Option α) 5) (Option α)}:(lK x).Dis (lH y):=fun _ _=>rfl
theorem ahL {α:Type} {x:Ln (Lv (Option α) 2) (Option α)} {y:Ln (Lv (Option α) 6) (Option α)}:(lK x).Dis (lG y):=fun _ _=>rfl
theorem ahK {α:Type} {x:Ln (Lv (Option α) 2) (Option α)} {y:Ln (Lv (Option α) 7) (Option α)}:(lK x).Dis (lF y):=fun _ _=>rfl
theorem ahJ {α:Type} {x:Ln (Lv (Option α) 2) (Option α)} {y:Nat}:(lK x).Dis ((qV y:Ln (Tr α) (Option α))):=fun _ _=>rfl
theorem ahI {α:Type} {x:Ln (Lv (Option α) 3) (Option α)} {y:Ln (Lv (Option α) 1) (Option α)}:(lJ x).Dis (lM y):=fun _ _=>rfl
theorem ahH {α:Type} {x:Ln (Lv (Option α) 3) (Option α)} {y:Ln (Lv (Option α) 2) (Option α)}:(lJ x).Dis (lK y):=fun _ _=>rfl
theorem ahG {α:Type} {x:Ln (Lv (Option α) 3) (Option α)} {y:Ln (Lv (Option α) 4) (Option α)}:(lJ x).Dis (lI y):=fun _ _=>rfl
theorem ahF {α:Type} {x:Ln (Lv (Option α) 3) (Option α)} {y:Ln (Lv (Option α) 5) (Option α)}:(lJ x).Dis (lH y):=fun _ _=>rfl
theorem ahE {α:Type} {x:Ln (Lv (Option α) 3) (Option α)} {y:Ln (Lv (Option α) 6) (Option α)}:(lJ x).Dis (lG y):=fun _ _=>rfl
theorem ahD {α:Type} {x:Ln (Lv (Option α) 3) (Option α)} {y:Ln (Lv (Option α) 7) (Option α)}:(lJ x).Dis (lF y):=fun _ _=>rfl
theorem ahC {α:Type} {x:Ln (Lv (Option α) 3) (Option α)} {y:Nat}:(lJ x).Dis ((qV y:Ln (Tr α) (Option α))):=fun _ _=>rfl
theorem ahB {α:Type} {x:Ln (Lv (Option α) 4) (Option α)} {y:Ln (Lv (Option α) 1) (Option α)}:(lI x).Dis (lM y):=fun _ _=>rfl
theorem ahA {α:Type} {x:Ln (Lv (Option α) 4) (Option α)} {y:Ln (Lv (Option α) 2) (Option α)}:(lI x).Dis (lK y):=fun _ _=>rfl
theorem ahz {α:Type} {x:Ln (Lv (Option α) 4) (Option α)} {y:Ln (Lv (Option α) 3) (Option α)}:(lI x).Dis (lJ y):=fun _ _=>rfl
theorem ahy {α:Type} {x:Ln (Lv (Option α) 4) (Option α)} {y:Ln (Lv (Option α) 5) (Option α)}:(lI x).Dis (lH y):=fun _ _=>rfl
theorem ahx {α:Type} {x:Ln (Lv (Option α) 4) (Option α)} {y:Ln (Lv (Option α) 6) (Option α)}:(lI x).Dis (lG y):=fun _ _=>rfl
theorem ahw {α:Type} {x:Ln (Lv (Option α) 4) (Option α)} {y:Ln (Lv (Option α) 7) (Option α)}:(lI x).Dis (lF y):=fun _ _=>rfl
theorem ahv {α:Type} {x:Ln (Lv (Option α) 4) (Option α)} {y:Nat}:(lI x).Dis ((qV y:Ln (Tr α) (Option α))):=fun _ _=>rfl
theorem ahu {α:Type} {x:Ln (Lv (Option α) 5) (Option α)} {y:Ln (Lv (Option α) 1) (Option α)}:(lH x).Dis (lM y):=fun _ _=>rfl
theorem aht {α:Type} {x:Ln (Lv (Option α) 5) (Option α)} {y:Ln (Lv (Option α) 2) (Option α)}:(lH x).Dis (lK y):=fun _ _=>rfl
theorem ahs {α:Type} {x:Ln (Lv (Option α) 5) (Option α)} {y:Ln (Lv (Option α) 3) (Option α)}:(lH x).Dis (lJ y):=fun _ _=>rfl
theorem ahr {α:Type} {x:Ln (Lv (Option α) 5) (Option α)} {y:Ln (Lv (Option α) 4) (Option α)}:(lH x).Dis (lI y):=fun _ _=>rfl
theorem ahq {α:Type} {x:Ln (Lv (Option α) 5) (Option α)} {y:Ln (Lv (Option α) 6) (Option α)}:(lH x).Dis (lG y):=fun _ _=>rfl
theorem ahp {α:Type} {x:Ln (Lv (Option α) 5) (Option α)} {y:Ln (Lv (Option α) 7) (Option α)}:(lH x).Dis (lF y):=fun _ _=>rfl
theorem aho {α:Type} {x:Ln (Lv (Option α) 5) (Option α)} {y:Nat}:(lH x).Dis ((qV y:Ln (Tr α) (Option α))):=fun _ _=>rfl
theorem ahn {α:Type} {x:Ln (Lv (Option α) 6) (Option α)} {y:Ln (Lv (Option α) 1) (Option α)}:(lG x).Dis (lM y):=fun _ _=>rfl
theorem ahm {α:Type} {x:Ln (Lv (Option α) 6) (Option α)} {y:Ln (Lv (Option α) 2) (Option α)}:(lG x).Dis (lK y):=fun _ _=>rfl
theorem ahl {α:Type} {x:Ln (Lv (Option α) 6) (Option α)} {y:Ln (Lv (Option α) 3) (Option α)}:(lG x).Dis (lJ y):=fun _ _=>rfl
theorem ahk {α:Type} {x:Ln (Lv (Option α) 6) (Option α)} {y:Ln (Lv (Option α) 4) (Option α)}:(lG x).Dis (lI y):=fun _ _=>rfl
theorem ahj {α:Type} {x:Ln (Lv (Option α) 6) (Option α)} {y:Ln (Lv (Option α) 5) (Option α)}:(lG x).Dis (lH y):=fun _ _=>rfl
theorem ahi {α:Type} {x:Ln (Lv (Option α) 6) (Option α)} {y:Ln (Lv (Option α) 7) (Option α)}:(lG x).Dis (lF y):=fun _ _=>rfl
theorem ahh {α:Type} {x:Ln (Lv (Option α) 6) (Option α)} {y:Nat}:(lG x).Dis ((qV y:Ln (Tr α) (Option α))):=fun _ _=>rfl
theorem ahg {α:Type} {x:Ln (Lv (Option α) 7) (Option α)} {y:Ln (Lv (Option α) 1) (Option α)}:(lF x).Dis (lM y):=fun _ _=>rfl
theorem ahf {α:Type} {x:Ln (Lv (Option α) 7) (Option α)} {y:Ln (Lv (Option α) 2) (Option α)}:(lF x).Dis (lK y):=fun _ _=>rfl
theorem ahe {α:Type} {x:Ln (Lv (Option α) 7) (Option α)} {y:Ln (Lv (Option α) 3) (Option α)}:(lF x).Dis (lJ y):=fun _ _=>rfl
theorem ahd {α:Type} {x:Ln (Lv (Option α) 7) (Option α)} {y:Ln (Lv (Option α) 4) (Option α)}:(lF x).Dis (lI y):=fun _ _=>rfl
theorem ahc {α:Type} {x:Ln (Lv (Option α) 7) (Option α)} {y:Ln (Lv (Option α) 5) (Option α)}:(lF x).Dis (lH y):=fun _ _=>rfl
theorem ahb {α:Type} {x:Ln (Lv (Option α) 7) (Option α)} {y:Ln (Lv (Option α) 6) (Option α)}:(lF x).Dis (lG y):=fun _ _=>rfl
theorem aha {α:Type} {x:Ln (Lv (Option α) 7) (Option α)} {y:Nat}:(lF x).Dis ((qV y:Ln (Tr α) (Option α))):=fun _ _=>rfl
theorem ag9 {α:Type} {x:Nat} {y:Ln (Lv (Option α) 1) (Option α)}:((qV x:Ln (Tr α) (Option α))).Dis (lM y):=fun _ _=>rfl
theorem ag8 {α:Type} {x:Nat} {y:Ln (Lv (Option α) 2) (Option α)}:((qV x:Ln (Tr α) (Option α))).Dis (lK y):=fun _ _=>rfl
theorem ag7 {α:Type} {x:Nat} {y:Ln (Lv (Option α) 3) (Option α)}:((qV x:Ln (Tr α) (Option α))).Dis (lJ y):=fun _ _=>rfl
theorem ag6 {α:Type} {x:Nat} {y:Ln (Lv (Option α) 4) (Option α)}:((qV x:Ln (Tr α) (Option α))).Dis (lI y):=fun _ _=>rfl
theorem ag5 {α:Type} {x:Nat} {y:Ln (Lv (Option α) 5) (Option α)}:((qV x:Ln (Tr α) (Option α))).Dis (lH y):=fun _ _=>rfl
theorem ag4 {α:Type} {x:Nat} {y:Ln (Lv (Option α) 6) (Option α)}:((qV x:Ln (Tr α) (Option α))).Dis (lG y):=fun _ _=>rfl
theorem ag3 {α:Type} {x:Nat} {y:Ln (Lv (Option α) 7) (Option α)}:((qV x:Ln (Tr α) (Option α))).Dis (lF y):=fun _ _=>rfl
theorem okT (α:Type) (n:Nat):(lnT α n).Ok:=by
 obtain ⟨i,h⟩:=at_ α n
 cases h with
 | l0 _ _ e _=>rw [e];exact alO (okL (Option α) 1 (n-0))
 | l1 _ _ e _=>rw [e];exact alN (okL (Option α) 2 (n-8))
 | l2 _ _ e _=>rw [e];exact alM (okL (Option α) 3 (n-72))
 | l3 _ _ e _=>rw [e];exact alL (okL (Option α) 4 (n-584))
 | l4 _ _ e _=>rw [e];exact alK (okL (Option α) 5 (n-4680))
 | l5 _ _ e _=>rw [e];exact alJ (okL (Option α) 6 (n-37448))
 | l6 _ _ e _=>rw [e];exact alI (okL (Option α) 7 (n-299592))
 | o _ e _=>rw [e];exact ⟨fun t v=>by show cond (Nat.beq n n) v _=v;rw [Nat.beq_refl];rfl⟩
theorem ofT (α R:Type) (n:Nat):(lkT α R n).Of (lnT α n):=by
 obtain ⟨i,h⟩:=at_ α n
 cases h with
 | l0 _ _ e e'=>rw [e,e'];exact alV (ofL (Option α) R 1 (n-0))
 | l1 _ _ e e'=>rw [e,e'];exact alU (ofL (Option α) R 2 (n-8))
 | l2 _ _ e e'=>rw [e,e'];exact alT (ofL (Option α) R 3 (n-72))
 | l3 _ _ e e'=>rw [e,e'];exact alS (ofL (Option α) R 4 (n-584))
 | l4 _ _ e e'=>rw [e,e'];exact alR (ofL (Option α) R 5 (n-4680))
 | l5 _ _ e e'=>rw [e,e'];exact alQ (ofL (Option α) R 6 (n-37448))
 | l6 _ _ e e'=>rw [e,e'];exact alP (ofL (Option α) R 7 (n-299592))
 | o _ e e'=>rw [e,e'];exact fun t v K=>rfl
theorem al6 (α:Type) {m n:Nat} (hmn:m≠n):(lnT α m).Dis (lnT α n):=by
 obtain ⟨i,h⟩:=at_ α m
 obtain ⟨j,h'⟩:=at_ α n
 cases h with
 | l0 a1 a2 e _=>
   rw [e]
   cases h' with
   | l0 b1 b2 e2 _=>rw [e2];exact akh (J7 (Option α) 1 (m-0) (n-0) (by omega) (by omega) (by omega))
   | l1 b1 b2 e2 _=>rw [e2];exact ahW
   | l2 b1 b2 e2 _=>rw [e2];exact ahV
   | l3 b1 b2 e2 _=>rw [e2];exact ahU
   | l4 b1 b2 e2 _=>rw [e2];exact ahT
   | l5 b1 b2 e2 _=>rw [e2];exact ahS
   | l6 b1 b2 e2 _=>rw [e2];exact ahR
   | o b1 e2 _=>rw [e2];exact ahQ
 | l1 a1 a2 e _=>
   rw [e]
   cases h' with
   | l0 b1 b2 e2 _=>rw [e2];exact ahP
   | l1 b1 b2 e2 _=>rw [e2];exact akg (J7 (Option α) 2 (m-8) (n-8) (by omega) (by omega) (by omega))
   | l2 b1 b2 e2 _=>rw [e2];exact ahO
   | l3 b1 b2 e2 _=>rw [e2];exact ahN
   | l4 b1 b2 e2 _=>rw [e2];exact ahM
   | l5 b1 b2 e2 _=>rw [e2];exact ahL
   | l6 b1 b2 e2 _=>rw [e2];exact ahK
   | o b1 e2 _=>rw [e2];exact ahJ
 | l2 a1 a2 e _=>
   rw [e]
   cases h' with
   | l0 b1 b2 e2 _=>rw [e2];exact ahI
   | l1 b1 b2 e2 _=>rw [e2];exact ahH
   | l2 b1 b2 e2 _=>rw [e2];exact akf (J7 (Option α) 3 (m-72) (n-72) (by omega) (by omega) (by omega))
   | l3 b1 b2 e2 _=>rw [e2];exact ahG
   | l4 b1 b2 e2 _=>rw [e2];exact ahF
   | l5 b1 b2 e2 _=>rw [e2];exact ahE
   | l6 b1 b2 e2 _=>rw [e2];exact ahD
   | o b1 e2 _=>rw [e2];exact ahC
 | l3 a1 a2 e _=>
   rw [e]
   cases h' with
   | l0 b1 b2 e2 _=>rw [e2];exact ahB
   | l1 b1 b2 e2 _=>rw [e2];exact ahA
   | l2 b1 b2 e2 _=>rw [e2];exact ahz
   | l3 b1 b2 e2 _=>rw [e2];exact ake (J7 (Option α) 4 (m-584) (n-584) (by omega) (by omega) (by omega))
   | l4 b1 b2 e2 _=>rw [e2];exact ahy
   | l5 b1 b2 e2 _=>rw [e2];exact ahx
   | l6 b1 b2 e2 _=>rw [e2];exact ahw
   | o b1 e2 _=>rw [e2];exact ahv
 | l4 a1 a2 e _=>
   rw [e]
   cases h' with
   | l0 b1 b2 e2 _=>rw [e2];exact ahu
   | l1 b1 b2 e2 _=>rw [e2];exact aht
   | l2 b1 b2 e2 _=>rw [e2];exact ahs
   | l3 b1 b2 e2 _=>rw [e2];exact ahr
   | l4 b1 b2 e2 _=>rw [e2];exact akd (J7 (Option α) 5 (m-4680) (n-4680) (by omega) (by omega) (by omega))
   | l5 b1 b2 e2 _=>rw [e2];exact ahq
   | l6 b1 b2 e2 _=>rw [e2];exact ahp
   | o b1 e2 _=>rw [e2];exact aho
 | l5 a1 a2 e _=>
   rw [e]
   cases h' with
   | l0 b1 b2 e2 _=>rw [e2];exact ahn
   | l1 b1 b2 e2 _=>rw [e2];exact ahm
   | l2 b1 b2 e2 _=>rw [e2];exact ahl
   | l3 b1 b2 e2 _=>rw [e2];exact ahk
   | l4 b1 b2 e2 _=>rw [e2];exact ahj
   | l5 b1 b2 e2 _=>rw [e2];exact akc (J7 (Option α) 6 (m-37448) (n-37448) (by omega) (by omega) (by omega))
   | l6 b1 b2 e2 _=>rw [e2];exact ahi
   | o b1 e2 _=>rw [e2];exact ahh
 | l6 a1 a2 e _=>
   rw [e]
   cases h' with
   | l0 b1 b2 e2 _=>rw [e2];exact ahg
   | l1 b1 b2 e2 _=>rw [e2];exact ahf
   | l2 b1 b2 e2 _=>rw [e2];exact ahe
   | l3 b1 b2 e2 _=>rw [e2];exact ahd
   | l4 b1 b2 e2 _=>rw [e2];exact ahc
   | l5 b1 b2 e2 _=>rw [e2];exact ahb
   | l6 b1 b2 e2 _=>rw [e2];exact akb (J7 (Option α) 7 (m-299592) (n-299592) (by omega) (by omega) (by omega))
   | o b1 e2 _=>rw [e2];exact aha
 | o a1 e _=>
   rw [e]
   cases h' with
   | l0 b1 b2 e2 _=>rw [e2];exact ag9
   | l1 b1 b2 e2 _=>rw [e2];exact ag8
   | l2 b1 b2 e2 _=>rw [e2];exact ag7
   | l3 b1 b2 e2 _=>rw [e2];exact ag6
   | l4 b1 b2 e2 _=>rw [e2];exact ag5
   | l5 b1 b2 e2 _=>rw [e2];exact ag4
   | l6 b1 b2 e2 _=>rw [e2];exact ag3
   | o b1 e2 _=>rw [e2];exact fun t v=>by show cond (Nat.beq m n) v _=_;rw [show Nat.beq m n=false from Bool.eq_false_iff.2 fun h=>hmn (Nat.eq_of_beq_eq_true h)];rfl
theorem lfT (α:Type) (n:Nat):(lnT α n).get (.lf:Tr α)=none:=by
 obtain ⟨i,h⟩:=at_ α n
 cases h with
 | l0 _ _ e _=>rw [e];exact al2 (jZ none 1 (n-0))
 | l1 _ _ e _=>rw [e];exact al1 (jZ none 2 (n-8))
 | l2 _ _ e _=>rw [e];exact al0 (jZ none 3 (n-72))
 | l3 _ _ e _=>rw [e];exact alZ (jZ none 4 (n-584))
 | l4 _ _ e _=>rw [e];exact alY (jZ none 5 (n-4680))
 | l5 _ _ e _=>rw [e];exact alX (jZ none 6 (n-37448))
 | l6 _ _ e _=>rw [e];exact alW (jZ none 7 (n-299592))
 | o _ e _=>rw [e];rfl
noncomputable def B.get {α:Type} (k:B) (t:Tr α):Option α:=(lnT α k.n).get t
noncomputable def B.put {α:Type} (k:B) (t:Tr α) (v:Option α):Tr α:=(lnT α k.n).put t v
noncomputable def B.iq {α R:Type} (k:B) (t:Tr α) (v:Option α) (K:Tr α→R):R:=(lkT α R k.n).set t v K
def F7 (k:B):Nat:=k.n
noncomputable def B.Vf {R:Type} (k:B) (K:B→R):R:=Nat.rec (motive:=fun _=>(B→R)→R) (fun K=>K ⟨0⟩) (fun p _ K=>K ⟨Nat.succ p⟩) (Nat.add k.n 1) K
def bOf (n:Nat):B:=⟨n⟩
end Go.Sim
