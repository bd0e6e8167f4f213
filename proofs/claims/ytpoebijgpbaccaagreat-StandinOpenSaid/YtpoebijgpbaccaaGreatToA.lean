/- That functions and loops over plain data end with some value. -/
import Derived.Test.YtpoebijgpbaccaaGreatJnA
set_option linter.unusedVariables false
set_option linter.unusedSimpArgs false
set_option linter.unnecessarySimpa false
namespace Go.Tk
open Go Go.Eng
set_option maxRecDepth 20000
def Ok {α:Type} (o:Option α) (P:α -> Prop):Prop:=∃ a,o = some a /\ P a
theorem Ok.mono {α:Type} {o:Option α} {P Q:α -> Prop} (h:Ok o P) (k:∀ a,P a -> Q a):Ok o Q:=by
 obtain ⟨a,h1,h2⟩:=h; exact ⟨a,h1,k a h2⟩
theorem Ok.of {α:Type} {o:Option α} {a:α} {P:α -> Prop} (h:o = some a) (hp:P a):Ok o P:=⟨a,h,hp⟩
theorem qan {α:Type} {a:α} {P:α -> Prop} (h:P a):Ok (some a) P:=⟨a,rfl,h⟩
theorem qak {α:Type} {a:α} {P:α -> Prop} (h:P a):Ok (DT.at a).ev P:=⟨a,rfl,h⟩
theorem qaq {α:Type} {c:Bool} {x y:DT α} {P:α -> Prop} (h1:c = true -> Ok x.ev P) (h2:c = false -> Ok y.ev P):Ok (DT.br c x y).ev P:=by
 cases c
 ·exact h2 rfl
 ·exact h1 rfl
theorem qaB {α:Type} {c:Bool} {x y:DT α} {P:α -> Prop} (hc:c = true) (h:Ok x.ev P):Ok (DT.br c x y).ev P:=by subst hc; exact h
theorem qcy {α:Type} {c:Bool} {x y:DT α} {P:α -> Prop} (hc:c = false) (h:Ok y.ev P):Ok (DT.br c x y).ev P:=by subst hc; exact h
theorem qao {α β:Type} [Inhabited β] {o:Option β} {f:β -> DT α} {e:DT α} {Q:β -> Prop} {P:α -> Prop} (h:Ok o Q) (k:∀ b,Q b -> Ok (f b).ev P):Ok (DT.bi o f e).ev P:=by
 obtain ⟨b,rfl,hb⟩:=h
 exact k b hb
theorem qbx {α β:Type} [Inhabited β] {o:Option β} {f:β -> DT α} {e:DT α} {P:α -> Prop} {b:β} (h:o = some b) (k:Ok (f b).ev P):Ok (DT.bi o f e).ev P:=by
 subst h; exact k
theorem qcz {α τ:Type} [Inhabited τ] {j:Nat} {o:Option (Nat × τ)} {f:τ -> DT α} {e:DT α} {Q:Nat -> τ -> Prop} {P:α -> Prop} (h:Ok o fun p=>Q p.1 p.2) (h1:∀ w,Q j w -> Ok (f w).ev P) (h2:Ok o (fun p=>p.1 ≠ j /\ Q p.1 p.2) -> Ok e.ev P):Ok (DT.bi (pj j o) f e).ev P:=by
 obtain ⟨⟨k,w⟩,rfl,hb⟩:=h
 by_cases hk:k = j
 ·subst hk
  have e1:pj k (some (k,w)) = some w:=by simp [pj]
  rw [e1]
  exact h1 w hb
 ·have e1:pj j (some (k,w)) = none:=by simp [pj,hk]
  rw [e1]
  exact h2 ⟨_,rfl,hk,hb⟩
theorem qh3 {α β:Type} {o:Option β} {Q:β -> Prop} {P:α -> Prop} {x:Option α} (h:Ok o Q) (hn:∀ b,¬ Q b):Ok x P:=by
 obtain ⟨b,_,hb⟩:=h
 exact absurd hb (hn b)
theorem qax {α:Type} {c:Bool} {x y:Option α} {P:α -> Prop} (h1:c = true -> Ok x P) (h2:c = false -> Ok y P):Ok (br c x y) P:=by
 cases c
 ·exact h2 rfl
 ·exact h1 rfl
theorem qaE {α:Type} {c:Bool} {x y:Option α} {P:α -> Prop} (hc:c = true) (h:Ok x P):Ok (br c x y) P:=by subst hc; exact h
theorem qaG {α:Type} {o:Option α} {P:α -> Prop} (h:Ok o P):sm o = true:=by obtain ⟨a,rfl,_⟩:=h; rfl
def Nx {τ:Type} (N:τ -> Prop) (Q:Nat -> Prop):Rd τ -> Prop
 | .next w=>N w
 | .done k=>Q k
theorem qIu {τ:Type} {st:τ -> DT (Rd τ)} (I:τ -> Prop) (μ:τ -> Nat) (Q:Nat -> τ -> Prop) (h:∀ v,I v -> Ok (st v).ev (Nx (fun w=>I w /\ μ w < μ v) fun k=>Q k v)):∀ v,I v -> Ok (qah (fun v=>(st v).ev) v) fun p=>Q p.1 p.2:=by
 intro v
 induction hm:μ v using Nat.strongRecOn generalizing v with
 | ind m ih=>
  intro hv
  subst hm
  obtain ⟨r,h1,h2⟩:=h v hv
  rw [qbX,h1]
  cases r with
  | next w=>exact ih _ h2.2 w rfl h2.1
  | done k=>exact ⟨_,rfl,h2⟩
theorem qSk {τ:Type} {st:τ -> DT (Rd τ)} (hd:Nat -> τ) (N:Nat) (Q:Nat -> Nat -> Prop) (h:∀ n,n <= N -> Ok (st (hd n)).ev (Nx (fun w=>n < N /\ w = hd (n + 1)) fun k=>Q k n)):∀ n,n <= N -> Ok (qah (fun v=>(st v).ev) (hd n)) fun p=>∃ m,m <= N /\ p.2 = hd m /\ Q p.1 m:=by
 intro n
 induction hk:N - n generalizing n with
 | zero=>
  intro hn
  obtain ⟨r,h1,h2⟩:=h n hn
  rw [qbX,h1]
  cases r with
  | next w=>have:=h2.1; omega
  | done k=>exact ⟨_,rfl,n,hn,rfl,h2⟩
 | succ k ih=>
  intro hn
  obtain ⟨r,h1,h2⟩:=h n hn
  rw [qbX,h1]
  cases r with
  | next w=>
   obtain ⟨h3,rfl⟩:=h2
   exact ih (n + 1) (by omega) (by omega)
  | done k=>exact ⟨_,rfl,n,hn,rfl,h2⟩
theorem qaP {n N:Nat} (h:n < N) (hN:N <= 9223372036854775807):IntKind.wrap .i64 ((n:Int) + 1) = ((n + 1:Nat):Int):=by
 rw [Go.Eng.wrap64 (by omega) (by omega)]; simp
theorem qds {α:Type} {av:α -> AV} {l:List α} {n:Nat} (h:n < l.length):decide ((n:Int) < (((l.map av).length:Nat):Int)) = true:=by
 rw [List.length_map]; exact decide_eq_true (by omega)
theorem qdr {α:Type} {av:α -> AV} {l:List α} {n:Nat} (h:¬ n < l.length):decide ((n:Int) < (((l.map av).length:Nat):Int)) = false:=by
 rw [List.length_map]; exact decide_eq_false (by omega)
theorem qaW {τ:Type} {A:τ -> Prop} {B:Nat -> Prop} {w:τ} (h:A w):Ok (DT.at (Rd.next w)).ev (Nx A B):=⟨_,rfl,h⟩
theorem qap {τ:Type} {A:τ -> Prop} {B:Nat -> Prop} {k:Nat} (h:B k):Ok (DT.at (Rd.done k:Rd τ)).ev (Nx A B):=⟨_,rfl,h⟩
def Lo {τ:Type} (o:Option (Nat × τ)) (K:Nat) (R:τ -> Prop):Prop:=Ok o fun p=>p.1 < K /\ R p.2
def Lo' {τ:Type} (o:Option (Nat × τ)) (K:Nat) (R:Nat -> τ -> Prop):Prop:=Ok o fun p=>p.1 < K /\ R p.1 p.2
theorem qaZ {τ:Type} {st:τ -> DT (Rd τ)} (hd:Nat -> τ) (N K:Nat) (h:∀ n,n <= N -> Ok (st (hd n)).ev (Nx (fun w=>n < N /\ w = hd (n + 1)) fun k=>k < K)):∀ n,n <= N -> Lo (qah (fun v=>(st v).ev) (hd n)) K fun w=>∃ m,m <= N /\ w = hd m:=by
 intro n hn
 refine (qSk hd N (fun k _=>k < K) h n hn).mono ?_
 rintro p ⟨m,h1,h2,h3⟩
 exact ⟨h3,m,h1,h2⟩
theorem qa9 {α τ:Type} [Inhabited τ] {o:Option (Nat × τ)} {f g:τ -> DT α} {e:DT α} {R:τ -> Prop} {P:α -> Prop} (h:Lo o 2 R) (h0:∀ w,R w -> Ok (f w).ev P) (h1:∀ w,R w -> Ok (g w).ev P):Ok (DT.bi (pj 0 o) f (DT.bi (pj 1 o) g e)).ev P:=
 qcz (Q:=fun k w=>k < 2 /\ R w) h (fun w hw=>h0 w hw.2) fun h=>qcz (Q:=fun k w=>k ≠ 0 /\ k < 2 /\ R w) h (fun w hw=>h1 w hw.2.2) fun h=>qh3 h fun p hp=>by omega
theorem qIv {α τ:Type} [Inhabited τ] {o:Option (Nat × τ)} {f0 f1 f2 f3:τ -> DT α} {e:DT α} {R:τ -> Prop} {P:α -> Prop} (h:Lo o 4 R) (h0:∀ w,R w -> Ok (f0 w).ev P) (h1:∀ w,R w -> Ok (f1 w).ev P) (h2:∀ w,R w -> Ok (f2 w).ev P) (h3:∀ w,R w -> Ok (f3 w).ev P):Ok (DT.bi (pj 0 o) f0 (DT.bi (pj 1 o) f1 (DT.bi (pj 2 o) f2 (DT.bi (pj 3 o) f3 e)))).ev P:=
 qcz (Q:=fun k w=>k < 4 /\ R w) h (fun w hw=>h0 w hw.2) fun h=>qcz (Q:=fun k w=>k ≠ 0 /\ k < 4 /\ R w) h (fun w hw=>h1 w hw.2.2) fun h=>qcz (Q:=fun k w=>k ≠ 1 /\ k ≠ 0 /\ k < 4 /\ R w) h (fun w hw=>h2 w hw.2.2.2) fun h=>qcz (Q:=fun k w=>k ≠ 2 /\ k ≠ 1 /\ k ≠ 0 /\ k < 4 /\ R w) h (fun w hw=>h3 w hw.2.2.2.2) fun h=>qh3 h fun p hp=>by omega
theorem qZv {α τ:Type} [Inhabited τ] {o:Option (Nat × τ)} {f0 f1 f2 f3 f4 f5:τ -> DT α} {e:DT α} {R:τ -> Prop} {P:α -> Prop} (h:Lo o 6 R) (h0:∀ w,R w -> Ok (f0 w).ev P) (h1:∀ w,R w -> Ok (f1 w).ev P) (h2:∀ w,R w -> Ok (f2 w).ev P) (h3:∀ w,R w -> Ok (f3 w).ev P) (h4:∀ w,R w -> Ok (f4 w).ev P) (h5:∀ w,R w -> Ok (f5 w).ev P):Ok (DT.bi (pj 0 o) f0 (DT.bi (pj 1 o) f1 (DT.bi (pj 2 o) f2 (DT.bi (pj 3 o) f3 (DT.bi (pj 4 o) f4 (DT.bi (pj 5 o) f5 e)))))).ev P:=
 qcz (Q:=fun k w=>k < 6 /\ R w) h (fun w hw=>h0 w hw.2) fun h=>qcz (Q:=fun k w=>k ≠ 0 /\ k < 6 /\ R w) h (fun w hw=>h1 w hw.2.2) fun h=>qcz (Q:=fun k w=>k ≠ 1 /\ k ≠ 0 /\ k < 6 /\ R w) h (fun w hw=>h2 w hw.2.2.2) fun h=>qcz (Q:=fun k w=>k ≠ 2 /\ k ≠ 1 /\ k ≠ 0 /\ k < 6 /\ R w) h (fun w hw=>h3 w hw.2.2.2.2) fun h=>qcz (Q:=fun k w=>k ≠ 3 /\ k ≠ 2 /\ k ≠ 1 /\ k ≠ 0 /\ k < 6 /\ R w) h (fun w hw=>h4 w hw.2.2.2.2.2) fun h=>qcz (Q:=fun k w=>k ≠ 4 /\ k ≠ 3 /\ k ≠ 2 /\ k ≠ 1 /\ k ≠ 0 /\ k < 6 /\ R w) h (fun w hw=>h5 w hw.2.2.2.2.2.2) fun h=>qh3 h fun p hp=>by omega
theorem qxi {τ:Type} {st:τ -> DT (Rd τ)} {v:τ} {K j:Nat} (h:(st v).ev = some (.done j)) (hj:j < K):Lo (qah (fun v=>(st v).ev) v) K fun w=>w = v:=⟨(j,v),qaQ h,hj,rfl⟩
theorem qxk {τ:Type} {st:τ -> DT (Rd τ)} (hd:Nat -> τ) (N K:Nat) (h:∀ n,0 < n -> n <= N -> Ok (st (hd n)).ev (Nx (fun w=>n < N /\ w = hd (n + 1)) fun k=>k < K)) (hN:0 < N):Lo (qah (fun v=>(st v).ev) (hd 1)) K fun w=>∃ m,m <= N /\ w = hd m:=by
 have:=qaZ (st:=st) (fun n=>hd (n + 1)) (N - 1) K (fun n hn=>(h (n + 1) (by omega) (by omega)).mono fun r hr=>by
  cases r with
  | next w=>exact ⟨by have:=hr.1; omega,hr.2⟩
  | done k=>exact hr) 0 (Nat.zero_le _)
 exact this.mono fun p hp=>by obtain ⟨h1,m,h2,h3⟩:=hp; exact ⟨h1,m + 1,by omega,h3⟩
theorem qxl {τ:Type} {st:τ -> DT (Rd τ)} (hd:Nat -> τ) (N K:Nat) (J:Nat -> Prop) (Q:Nat -> Nat -> Prop) (h:∀ n,n <= N -> J n -> Ok (st (hd n)).ev (Nx (fun w=>(n < N /\ w = hd (n + 1)) /\ J (n + 1)) fun k=>k < K /\ Q k n)):∀ n,n <= N -> J n -> Lo' (qah (fun v=>(st v).ev) (hd n)) K (fun k w=>∃ m,m <= N /\ w = hd m /\ Q k m):=by
 intro n
 induction hk:N - n generalizing n with
 | zero=>
  intro hn hj
  obtain ⟨r,h1,h2⟩:=h n hn hj
  rw [qbX,h1]
  cases r with
  | next w=>have:=h2.1.1; omega
  | done k=>exact ⟨_,rfl,h2.1,n,hn,rfl,h2.2⟩
 | succ k ih=>
  intro hn hj
  obtain ⟨r,h1,h2⟩:=h n hn hj
  rw [qbX,h1]
  cases r with
  | next w=>
   obtain ⟨⟨h3,rfl⟩,h4⟩:=h2
   exact ih (n + 1) (by omega) (by omega) h4
  | done k=>exact ⟨_,rfl,h2.1,n,hn,rfl,h2.2⟩
theorem qjB {α τ:Type} [Inhabited τ] {o:Option (Nat × τ)} {f g:τ -> DT α} {e:DT α} {R:Nat -> τ -> Prop} {P:α -> Prop} (h:Lo' o 2 R) (h0:∀ w,R 0 w -> Ok (f w).ev P) (h1:∀ w,R 1 w -> Ok (g w).ev P):Ok (DT.bi (pj 0 o) f (DT.bi (pj 1 o) g e)).ev P:=
 qcz (Q:=fun k w=>k < 2 /\ R k w) h (fun w hw=>h0 w hw.2) fun h=>qcz (Q:=fun k w=>k ≠ 0 /\ k < 2 /\ R k w) h (fun w hw=>h1 w hw.2.2) fun h=>qh3 h fun p hp=>by omega
theorem qvR {α:Type} (av:α -> AV) (l:List α) (n:Nat):List.take ((n:Int)).toNat (l.map av) = (l.take n).map av:=by
 rw [Int.toNat_natCast,List.map_take]
abbrev EIn (l:List Int):List AV:=l.map (AV.int IntKind.i64)
theorem qXh {l:List Int} {n:Nat} (h:n < l.length):qaw [CS.int IntKind.i64] (EIn l) (n:Int) = true:=qbv (fun _=>rfl) h
theorem q76 {l:List Int} {n:Nat} (h:n < l.length):okP [CS.int IntKind.i64] (EIn l) n 0 = true:=by
 unfold okP
 rw [List.getElem?_map,List.getElem?_eq_getElem h]; rfl
theorem q2H {l:List Int} {n:Nat} (h:n < l.length):okP [CS.int IntKind.i64] (EIn l) ((n:Int)).toNat 0 = true:=by rw [Int.toNat_natCast]; exact q76 h
theorem inE {α:Type} {av:α -> AV} {l:List α} {n:Nat} (h:n < l.length):inB (l.map av).length (n:Int) = true:=by rw [List.length_map]; exact qbG h
theorem leE {α:Type} {av:α -> AV} {l:List α} {n:Nat} (h:n <= l.length):(leB (n:Int) (l.map av).length && true) = true:=by
 rw [List.length_map]; simp [leB]; omega
theorem qCD {n N:Nat} (h:n < N) (h0:0 < n) (hN:N <= 9223372036854775807):IntKind.wrap .i64 ((n:Int) - 1) = ((n - 1:Nat):Int):=by
 rw [Go.Eng.wrap64 (by omega) (by omega)]; omega
theorem qgm {α:Type} {av:α -> AV} {ks:List CS} (hk:∀ x,qfK ks (qac (av x)) = true) {l:List α} {n:Nat} (h:n < l.length) (h0:0 < n) (hN:l.length <= 9223372036854775807):qaw ks (l.map av) (IntKind.wrap .i64 ((n:Int) - 1)) = true:=by
 rw [qCD h h0 hN]; exact qbv hk (by omega)
theorem qnc {τ σ:Type} {st:τ -> DT (Rd τ)} (hd:Nat -> σ -> τ) (N K:Nat) (J:Nat -> σ -> Prop) (Q:Nat -> Nat -> σ -> Prop) (h:∀ n s,n <= N -> J n s -> Ok (st (hd n s)).ev (Nx (fun w=>n < N /\ ∃ s',w = hd (n + 1) s' /\ J (n + 1) s') fun k=>k < K /\ Q k n s)):∀ n s,n <= N -> J n s -> Lo' (qah (fun v=>(st v).ev) (hd n s)) K (fun k w=>∃ m s',m <= N /\ w = hd m s' /\ J m s' /\ Q k m s'):=by
 intro n
 induction hk:N - n generalizing n with
 | zero=>
  intro s hn hj
  obtain ⟨r,h1,h2⟩:=h n s hn hj
  rw [qbX,h1]
  cases r with
  | next w=>have:=h2.1; omega
  | done k=>exact ⟨_,rfl,h2.1,n,s,hn,rfl,hj,h2.2⟩
 | succ k ih=>
  intro s hn hj
  obtain ⟨r,h1,h2⟩:=h n s hn hj
  rw [qbX,h1]
  cases r with
  | next w=>
   obtain ⟨h3,s',rfl,h4⟩:=h2
   exact ih (n + 1) (by omega) s' (by omega) h4
  | done k=>exact ⟨_,rfl,h2.1,n,s,hn,rfl,hj,h2.2⟩
theorem qIw {α τ:Type} [Inhabited τ] {o:Option (Nat × τ)} {f:τ -> DT α} {e:DT α} {R:Nat -> τ -> Prop} {P:α -> Prop} (h:Lo' o 1 R) (h0:∀ w,R 0 w -> Ok (f w).ev P):Ok (DT.bi (pj 0 o) f e).ev P:=
 qcz (Q:=fun k w=>k < 1 /\ R k w) h (fun w hw=>h0 w hw.2) fun h=>qh3 h fun p hp=>by omega
def qXB {α:Type} (p:α -> Prop) (l:List α) (n:Nat):Prop:=∀ (i:Nat) (h:i < l.length),i < n -> p l[i]
theorem qTn {α:Type} (p:α -> Prop) (l:List α):qXB p l 0:=fun i h hi=>absurd hi (Nat.not_lt_zero i)
theorem qTo {α:Type} {p:α -> Prop} {l:List α} {n:Nat} (h:qXB p l n) (hn:n < l.length) (hp:p l[n]):qXB p l (n + 1):=fun i hi hin=>by
 by_cases e:i = n
 ·subst e; exact hp
 ·exact h i hi (by omega)
theorem qz5 {α:Type} {p:α -> Prop} {l:List α} (h:qXB p l l.length):∀ x ∈ l,p x:=fun x hx=>by
 obtain ⟨i,hi,rfl⟩:=List.mem_iff_getElem.1 hx; exact h i hi hi
theorem qfQ {α:Type} {p:α -> Prop}:∀ v ∈ ([]:List α),p v:=fun v h=>by cases h
theorem qd4 {α:Type} {p:α -> Prop} {x:α} {l:List α} (h:p x) (k:∀ v ∈ l,p v):∀ v ∈ x :: l,p v:=fun v hv=>by
 rcases List.mem_cons.1 hv with rfl | hv
 ·exact h
 ·exact k v hv
theorem qx8 {α:Type} {p:α -> Prop} {l m:List α} (h:∀ v ∈ l,p v) (k:∀ v ∈ m,p v):∀ v ∈ l ++ m,p v:=fun v hv=>(List.mem_append.1 hv).elim (h v) (k v)
theorem qp9 {α:Type} {p:α -> Prop} {l:List α} {n:Nat} (h:∀ v ∈ l,p v):∀ v ∈ l.take n,p v:=fun v hv=>h v (List.mem_of_mem_take hv)
theorem qjR {p:AV -> Prop} {l:List AV} {n:Nat} (h:∀ v ∈ l,p v):∀ v ∈ qaF l n,p v:=fun v hv=>h v (List.mem_of_mem_drop (by rw [qa4] at hv; exact hv))
theorem qbO {n b:Nat} (h:n <= 1000) (hb:b <= 1000):room n b = true:=by
 have:=Nat.mul_le_mul h hb
 exact decide_eq_true (Nat.le_trans this (by decide))
theorem quQ {α β:Type} {A:List β} {p1 p2:Bool} {x y:DT α} {P:α -> Prop} (h1:p1 = true) (h2:p2 = true) (hx:A.length = 0 -> Ok x.ev P) (hy:A.length ≠ 0 -> Ok y.ev P):Ok (DT.br (decide (A.length = 0) && p1) x (DT.br (decide (A.length ≠ 0) && p2) y .no)).ev P:=by
 subst h1 h2
 by_cases h:A.length = 0
 ·exact qaB (by rw [decide_eq_true h]; rfl) (hx h)
 ·exact qcy (by rw [decide_eq_false h]; rfl) (qaB (by rw [decide_eq_true h]; rfl) (hy h))
theorem qZx {α τ:Type} [Inhabited τ] {o:Option (Nat × τ)} {f0 f1 f2 f3 f4:τ -> DT α} {e:DT α} {R:Nat -> τ -> Prop} {P:α -> Prop} (h:Lo' o 5 R) (h0:∀ w,R 0 w -> Ok (f0 w).ev P) (h1:∀ w,R 1 w -> Ok (f1 w).ev P) (h2:∀ w,R 2 w -> Ok (f2 w).ev P) (h3:∀ w,R 3 w -> Ok (f3 w).ev P) (h4:∀ w,R 4 w -> Ok (f4 w).ev P):Ok (DT.bi (pj 0 o) f0 (DT.bi (pj 1 o) f1 (DT.bi (pj 2 o) f2 (DT.bi (pj 3 o) f3 (DT.bi (pj 4 o) f4 e))))).ev P:=
 qcz (Q:=fun k w=>k < 5 /\ R k w) h (fun w hw=>h0 w hw.2) fun h=>qcz (Q:=fun k w=>k ≠ 0 /\ k < 5 /\ R k w) h (fun w hw=>h1 w hw.2.2) fun h=>qcz (Q:=fun k w=>k ≠ 1 /\ k ≠ 0 /\ k < 5 /\ R k w) h (fun w hw=>h2 w hw.2.2.2) fun h=>qcz (Q:=fun k w=>k ≠ 2 /\ k ≠ 1 /\ k ≠ 0 /\ k < 5 /\ R k w) h (fun w hw=>h3 w hw.2.2.2.2) fun h=>qcz (Q:=fun k w=>k ≠ 3 /\ k ≠ 2 /\ k ≠ 1 /\ k ≠ 0 /\ k < 5 /\ R k w) h (fun w hw=>h4 w hw.2.2.2.2.2) fun h=>qh3 h fun p hp=>by omega
theorem qZw {α τ:Type} [Inhabited τ] {o:Option (Nat × τ)} {f0 f1 f2 f3:τ -> DT α} {e:DT α} {R:Nat -> τ -> Prop} {P:α -> Prop} (h:Lo' o 4 R) (h0:∀ w,R 0 w -> Ok (f0 w).ev P) (h1:∀ w,R 1 w -> Ok (f1 w).ev P) (h2:∀ w,R 2 w -> Ok (f2 w).ev P) (h3:∀ w,R 3 w -> Ok (f3 w).ev P):Ok (DT.bi (pj 0 o) f0 (DT.bi (pj 1 o) f1 (DT.bi (pj 2 o) f2 (DT.bi (pj 3 o) f3 e)))).ev P:=
 qcz (Q:=fun k w=>k < 4 /\ R k w) h (fun w hw=>h0 w hw.2) fun h=>qcz (Q:=fun k w=>k ≠ 0 /\ k < 4 /\ R k w) h (fun w hw=>h1 w hw.2.2) fun h=>qcz (Q:=fun k w=>k ≠ 1 /\ k ≠ 0 /\ k < 4 /\ R k w) h (fun w hw=>h2 w hw.2.2.2) fun h=>qcz (Q:=fun k w=>k ≠ 2 /\ k ≠ 1 /\ k ≠ 0 /\ k < 4 /\ R k w) h (fun w hw=>h3 w hw.2.2.2.2) fun h=>qh3 h fun p hp=>by omega
theorem Ok.val {α:Type} {o:Option α} {v:α} (h:Ok o fun x=>x = v):o = some v:=by obtain ⟨a,h1,rfl⟩:=h; exact h1
theorem qcx {τ σ:Type} {st:τ -> DT (Rd τ)} (hd:Nat -> σ -> τ) (F:Nat -> σ) (N j:Nat) (h:∀ n,n < N -> (st (hd n (F n))).ev = some (.next (hd (n + 1) (F (n + 1))))) (he:(st (hd N (F N))).ev = some (.done j)):qah (fun v=>(st v).ev) (hd 0 (F 0)) = some (j,hd N (F N)):=by
 have key:∀ k n,N - n = k -> n <= N -> qah (fun v=>(st v).ev) (hd n (F n)) = some (j,hd N (F N)):=by
  intro k
  induction k with
  | zero=>
   intro n h1 h2
   obtain rfl:n = N:=by omega
   exact qaQ he
  | succ k ih=>intro n h1 h2; rw [qcO (h n (by omega))]; exact ih (n + 1) (by omega) (by omega)
 exact key N 0 (by omega) (Nat.zero_le _)
end Go.Tk
