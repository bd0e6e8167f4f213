/- That functions and loops over plain data end with some value. -/
import Derived.Test.YtbieppilagmdjaaGreatDoorTkA
set_option linter.unusedVariables false
set_option linter.unusedSimpArgs false
set_option linter.unnecessarySimpa false
namespace Go.Tk
open Go Go.Eng
set_option maxRecDepth 20000
def Ok {α:Type} (o:Option α) (P:α -> Prop):Prop:=∃ a,o = some a /\ P a
theorem Ok.mono {α:Type} {o:Option α} {P Q:α -> Prop} (h:Ok o P) (k:∀ a,P a -> Q a):Ok o Q:=by
 obtain ⟨a,h1,h2⟩:=h; exact ⟨a,h1,k a h2⟩
theorem qaJ {α:Type} {a:α} {P:α -> Prop} (h:P a):Ok (some a) P:=⟨a,rfl,h⟩
theorem qah {α:Type} {a:α} {P:α -> Prop} (h:P a):Ok (DT.at a).ev P:=⟨a,rfl,h⟩
theorem qao {α:Type} {c:Bool} {x y:DT α} {P:α -> Prop} (h1:c = true -> Ok x.ev P) (h2:c = false -> Ok y.ev P):Ok (DT.br c x y).ev P:=by
 cases c
 ·exact h2 rfl
 ·exact h1 rfl
theorem qaE {α:Type} {c:Bool} {x y:DT α} {P:α -> Prop} (hc:c = true) (h:Ok x.ev P):Ok (DT.br c x y).ev P:=by subst hc; exact h
theorem qbN {α:Type} {c:Bool} {x y:DT α} {P:α -> Prop} (hc:c = false) (h:Ok y.ev P):Ok (DT.br c x y).ev P:=by subst hc; exact h
theorem qax {α β:Type} [Inhabited β] {o:Option β} {f:β -> DT α} {e:DT α} {Q:β -> Prop} {P:α -> Prop} (h:Ok o Q) (k:∀ b,Q b -> Ok (f b).ev P):Ok (DT.bi o f e).ev P:=by
 obtain ⟨b,rfl,hb⟩:=h
 exact k b hb
theorem qam {α β:Type} [Inhabited β] {o:Option β} {f:β -> DT α} {e:DT α} {P:α -> Prop} {b:β} (h:o = some b) (k:Ok (f b).ev P):Ok (DT.bi o f e).ev P:=by
 subst h; exact k
theorem qbs {α τ:Type} [Inhabited τ] {j:Nat} {o:Option (Nat × τ)} {f:τ -> DT α} {e:DT α} {Q:Nat -> τ -> Prop} {P:α -> Prop} (h:Ok o fun p=>Q p.1 p.2) (h1:∀ w,Q j w -> Ok (f w).ev P) (h2:Ok o (fun p=>p.1 ≠ j /\ Q p.1 p.2) -> Ok e.ev P):Ok (DT.bi (pj j o) f e).ev P:=by
 obtain ⟨⟨k,w⟩,rfl,hb⟩:=h
 by_cases hk:k = j
 ·subst hk
  have e1:pj k (some (k,w)) = some w:=by simp [pj]
  rw [e1]
  exact h1 w hb
 ·have e1:pj j (some (k,w)) = none:=by simp [pj,hk]
  rw [e1]
  exact h2 ⟨_,rfl,hk,hb⟩
theorem qfp {α β:Type} {o:Option β} {Q:β -> Prop} {P:α -> Prop} {x:Option α} (h:Ok o Q) (hn:∀ b,¬ Q b):Ok x P:=by
 obtain ⟨b,_,hb⟩:=h
 exact absurd hb (hn b)
theorem qbd {α:Type} {c:Bool} {x y:Option α} {P:α -> Prop} (h1:c = true -> Ok x P) (h2:c = false -> Ok y P):Ok (br c x y) P:=by
 cases c
 ·exact h2 rfl
 ·exact h1 rfl
theorem qd8 {α:Type} {c:Bool} {x y:Option α} {P:α -> Prop} (hc:c = true) (h:Ok x P):Ok (br c x y) P:=by subst hc; exact h
theorem qid {α:Type} {o:Option α} {P:α -> Prop} (h:Ok o P):sm o = true:=by obtain ⟨a,rfl,_⟩:=h; rfl
def Nx {τ:Type} (N:τ -> Prop) (Q:Nat -> Prop):Rd τ -> Prop
 | .next w=>N w
 | .done k=>Q k
theorem qdP {τ:Type} {st:τ -> DT (Rd τ)} (I:τ -> Prop) (μ:τ -> Nat) (Q:Nat -> τ -> Prop) (h:∀ v,I v -> Ok (st v).ev (Nx (fun w=>I w /\ μ w < μ v) fun k=>Q k v)):∀ v,I v -> Ok (qat (fun v=>(st v).ev) v) fun p=>Q p.1 p.2:=by
 intro v
 induction hm:μ v using Nat.strongRecOn generalizing v with
 | ind m ih=>
  intro hv
  subst hm
  obtain ⟨r,h1,h2⟩:=h v hv
  rw [qbF,h1]
  cases r with
  | next w=>exact ih _ h2.2 w rfl h2.1
  | done k=>exact ⟨_,rfl,h2⟩
theorem qS0 {τ:Type} {st:τ -> DT (Rd τ)} (hd:Nat -> τ) (N:Nat) (Q:Nat -> Nat -> Prop) (h:∀ n,n <= N -> Ok (st (hd n)).ev (Nx (fun w=>n < N /\ w = hd (n + 1)) fun k=>Q k n)):∀ n,n <= N -> Ok (qat (fun v=>(st v).ev) (hd n)) fun p=>∃ m,m <= N /\ p.2 = hd m /\ Q p.1 m:=by
 intro n
 induction hk:N - n generalizing n with
 | zero=>
  intro hn
  obtain ⟨r,h1,h2⟩:=h n hn
  rw [qbF,h1]
  cases r with
  | next w=>have:=h2.1; omega
  | done k=>exact ⟨_,rfl,n,hn,rfl,h2⟩
 | succ k ih=>
  intro hn
  obtain ⟨r,h1,h2⟩:=h n hn
  rw [qbF,h1]
  cases r with
  | next w=>
   obtain ⟨h3,rfl⟩:=h2
   exact ih (n + 1) (by omega) (by omega)
  | done k=>exact ⟨_,rfl,n,hn,rfl,h2⟩
theorem qbH {n N:Nat} (h:n < N) (hN:N <= 9223372036854775807):IntKind.wrap .i64 ((n:Int) + 1) = ((n + 1:Nat):Int):=by
 rw [Go.Eng.wrap64 (by omega) (by omega)]; simp
theorem qlz {α:Type} {av:α -> AV} {l:List α} {n:Nat} (h:n < l.length):decide ((n:Int) < (((l.map av).length:Nat):Int)) = true:=by
 rw [List.length_map]; exact decide_eq_true (by omega)
theorem qpj {α:Type} {av:α -> AV} {l:List α} {n:Nat} (h:¬ n < l.length):decide ((n:Int) < (((l.map av).length:Nat):Int)) = false:=by
 rw [List.length_map]; exact decide_eq_false (by omega)
theorem qbO {τ:Type} {A:τ -> Prop} {B:Nat -> Prop} {w:τ} (h:A w):Ok (DT.at (Rd.next w)).ev (Nx A B):=⟨_,rfl,h⟩
theorem qaQ {τ:Type} {A:τ -> Prop} {B:Nat -> Prop} {k:Nat} (h:B k):Ok (DT.at (Rd.done k:Rd τ)).ev (Nx A B):=⟨_,rfl,h⟩
def Lo {τ:Type} (o:Option (Nat × τ)) (K:Nat) (R:τ -> Prop):Prop:=Ok o fun p=>p.1 < K /\ R p.2
def Lo' {τ:Type} (o:Option (Nat × τ)) (K:Nat) (R:Nat -> τ -> Prop):Prop:=Ok o fun p=>p.1 < K /\ R p.1 p.2
theorem qfq {τ:Type} {st:τ -> DT (Rd τ)} (hd:Nat -> τ) (N K:Nat) (h:∀ n,n <= N -> Ok (st (hd n)).ev (Nx (fun w=>n < N /\ w = hd (n + 1)) fun k=>k < K)):∀ n,n <= N -> Lo (qat (fun v=>(st v).ev) (hd n)) K fun w=>∃ m,m <= N /\ w = hd m:=by
 intro n hn
 refine (qS0 hd N (fun k _=>k < K) h n hn).mono ?_
 rintro p ⟨m,h1,h2,h3⟩
 exact ⟨h3,m,h1,h2⟩
theorem qvE {α τ:Type} [Inhabited τ] {o:Option (Nat × τ)} {f:τ -> DT α} {e:DT α} {R:τ -> Prop} {P:α -> Prop} (h:Lo o 1 R) (h0:∀ w,R w -> Ok (f w).ev P):Ok (DT.bi (pj 0 o) f e).ev P:=
 qbs (Q:=fun k w=>k < 1 /\ R w) h (fun w hw=>h0 w hw.2) fun h=>qfp h fun p hp=>by omega
theorem qdu {α τ:Type} [Inhabited τ] {o:Option (Nat × τ)} {f g:τ -> DT α} {e:DT α} {R:τ -> Prop} {P:α -> Prop} (h:Lo o 2 R) (h0:∀ w,R w -> Ok (f w).ev P) (h1:∀ w,R w -> Ok (g w).ev P):Ok (DT.bi (pj 0 o) f (DT.bi (pj 1 o) g e)).ev P:=
 qbs (Q:=fun k w=>k < 2 /\ R w) h (fun w hw=>h0 w hw.2) fun h=>qbs (Q:=fun k w=>k ≠ 0 /\ k < 2 /\ R w) h (fun w hw=>h1 w hw.2.2) fun h=>qfp h fun p hp=>by omega
theorem qB6 {τ:Type} {st:τ -> DT (Rd τ)} {v:τ} {K j:Nat} (h:(st v).ev = some (.done j)) (hj:j < K):Lo (qat (fun v=>(st v).ev) v) K fun w=>w = v:=⟨(j,v),qaX h,hj,rfl⟩
theorem qCE {τ:Type} {st:τ -> DT (Rd τ)} (hd:Nat -> τ) (N K:Nat) (h:∀ n,0 < n -> n <= N -> Ok (st (hd n)).ev (Nx (fun w=>n < N /\ w = hd (n + 1)) fun k=>k < K)) (hN:0 < N):Lo (qat (fun v=>(st v).ev) (hd 1)) K fun w=>∃ m,m <= N /\ w = hd m:=by
 have:=qfq (st:=st) (fun n=>hd (n + 1)) (N - 1) K (fun n hn=>(h (n + 1) (by omega) (by omega)).mono fun r hr=>by
  cases r with
  | next w=>exact ⟨by have:=hr.1; omega,hr.2⟩
  | done k=>exact hr) 0 (Nat.zero_le _)
 exact this.mono fun p hp=>by obtain ⟨h1,m,h2,h3⟩:=hp; exact ⟨h1,m + 1,by omega,h3⟩
theorem qkz {τ:Type} {st:τ -> DT (Rd τ)} (hd:Nat -> τ) (N K:Nat) (J:Nat -> Prop) (Q:Nat -> Nat -> Prop) (h:∀ n,n <= N -> J n -> Ok (st (hd n)).ev (Nx (fun w=>(n < N /\ w = hd (n + 1)) /\ J (n + 1)) fun k=>k < K /\ Q k n)):∀ n,n <= N -> J n -> Lo' (qat (fun v=>(st v).ev) (hd n)) K (fun k w=>∃ m,m <= N /\ w = hd m /\ Q k m):=by
 intro n
 induction hk:N - n generalizing n with
 | zero=>
  intro hn hj
  obtain ⟨r,h1,h2⟩:=h n hn hj
  rw [qbF,h1]
  cases r with
  | next w=>have:=h2.1.1; omega
  | done k=>exact ⟨_,rfl,h2.1,n,hn,rfl,h2.2⟩
 | succ k ih=>
  intro hn hj
  obtain ⟨r,h1,h2⟩:=h n hn hj
  rw [qbF,h1]
  cases r with
  | next w=>
   obtain ⟨⟨h3,rfl⟩,h4⟩:=h2
   exact ih (n + 1) (by omega) (by omega) h4
  | done k=>exact ⟨_,rfl,h2.1,n,hn,rfl,h2.2⟩
abbrev EIn (l:List Int):List AV:=l.map (AV.int IntKind.i64)
theorem qxj {l:List Int} {n:Nat} (h:n < l.length):qcO [CS.int IntKind.i64] (EIn l) (n:Int) = true:=qbV (fun _=>rfl) h
theorem inE {α:Type} {av:α -> AV} {l:List α} {n:Nat} (h:n < l.length):inB (l.map av).length (n:Int) = true:=by rw [List.length_map]; exact qkg h
theorem leE {α:Type} {av:α -> AV} {l:List α} {n:Nat} (h:n <= l.length):(leB (n:Int) (l.map av).length && true) = true:=by
 rw [List.length_map]; simp [leB]; omega
theorem qZZ {n N:Nat} (h:n < N) (h0:0 < n) (hN:N <= 9223372036854775807):IntKind.wrap .i64 ((n:Int) - 1) = ((n - 1:Nat):Int):=by
 rw [Go.Eng.wrap64 (by omega) (by omega)]; omega
theorem qKo {α:Type} {av:α -> AV} {ks:List CS} (hk:∀ x,qhi ks (qac (av x)) = true) {l:List α} {n:Nat} (h:n < l.length) (h0:0 < n) (hN:l.length <= 9223372036854775807):qcO ks (l.map av) (IntKind.wrap .i64 ((n:Int) - 1)) = true:=by
 rw [qZZ h h0 hN]; exact qbV hk (by omega)
theorem Ok.val {α:Type} {o:Option α} {v:α} (h:Ok o fun x=>x = v):o = some v:=by obtain ⟨a,h1,rfl⟩:=h; exact h1
end Go.Tk
