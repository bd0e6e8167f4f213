/- Civil dates over plain data: the year, the month and the day of a number. -/
import Derived.Test.YtbieppilagmdjaaGreatDoorE3
import Derived.Test.YtbieppilagmdjaaGreatDoorD35_1
import Derived.Test.YtbieppilagmdjaaGreatDoorD35_3
import Derived.Test.YtbieppilagmdjaaGreatDoorD35_5
import Derived.Test.YtbieppilagmdjaaGreatDoorTkA
import Derived.Test.YtbieppilagmdjaaGreatDoorX35Ta
import Derived.Test.YtbieppilagmdjaaGreatDoorLnC
set_option linter.unusedVariables false
set_option linter.unusedSimpArgs false
set_option linter.unnecessarySimpa false
namespace Go.Tk
open Go Go.Eng
def qlA (y:Int):Bool:=y % 4 == 0 && (!(y % 100 == 0) || y % 400 == 0)
def mlS (y:Int) (m:Nat):Int:=if m = 2 then (bif qlA y then 29 else 28) else if m = 4 \/ m = 6 \/ m = 9 \/ m = 11 then 30 else 31
def ylS (y:Int):Int:=bif qlA y then 366 else 365
def qcz:Nat -> Int
 | 0=>0
 | k + 1=>qcz k + ylS (2000 + k)
def qb1 (y:Int):Nat -> Int
 | 0=>0
 | m + 1=>qb1 y m + mlS y (m + 1)
theorem qq5 (y:Int) (m:Nat):28 <= mlS y m /\ mlS y m <= 31:=by
 unfold mlS
 cases qlA y <;> simp only [cond_true,cond_false] <;> (repeat' split) <;> omega
theorem qE0 (y:Int):365 <= ylS y /\ ylS y <= 366:=by
 unfold ylS
 cases qlA y <;> simp
theorem qNm (y:Int):qb1 y 12 = ylS y:=by
 simp only [qb1,mlS,ylS]
 cases qlA y <;> rfl
theorem qew {a b:Nat} (h:a <= b):qcz a <= qcz b:=by
 induction b with
 | zero=>simp [Nat.le_zero.1 h]
 | succ b ih=>
  rcases Nat.lt_or_ge b a with h1 | h1
  ·rw [show a = b + 1 by omega]; omega
  ·have:=qE0 (2000 + b)
   have:=ih h1
   simp only [qcz]; omega
theorem qfG (y:Int) {a b:Nat} (h:a <= b):qb1 y a <= qb1 y b:=by
 induction b with
 | zero=>simp [Nat.le_zero.1 h]
 | succ b ih=>
  rcases Nat.lt_or_ge b a with h1 | h1
  ·rw [show a = b + 1 by omega]; omega
  ·have:=qq5 y (b + 1)
   have:=ih h1
   simp only [qb1]; omega
theorem qsi:qcz 200 = 73049:=by decide +kernel
def IsCiv (n:Int) (c:Int × Int × Int):Prop:=∃ k m:Nat,k < 200 /\ m < 12 /\ c.1 = 2000 + k /\ c.2.1 = m + 1 /\ 1 <= c.2.2 /\ c.2.2 <= mlS c.1 (m + 1) /\ n = qcz k + qb1 c.1 m + c.2.2 - 1
theorem IsCiv.year {n:Int} {k m:Nat} {y d:Int} (hm:m < 12) (hy:y = 2000 + k) (h1:1 <= d) (h2:d <= mlS y (m + 1)) (hn:n = qcz k + qb1 y m + d - 1):qcz k <= n /\ n < qcz (k + 1) /\ qb1 y m <= n - qcz k /\ n - qcz k < qb1 y (m + 1):=by
 have c0:0 <= qb1 y m:=qfG y (Nat.zero_le m)
 have c1:qb1 y (m + 1) <= qb1 y 12:=qfG y hm
 rw [qNm] at c1
 have c2:qb1 y (m + 1) = qb1 y m + mlS y (m + 1):=rfl
 have c3:qcz (k + 1) = qcz k + ylS y:=by rw [hy]; rfl
 omega
theorem qic {f:Nat -> Int} {n:Int} (h0:f 0 <= n):∀ {k:Nat},n < f k -> ∃ a,a < k /\ f a <= n /\ n < f (a + 1)
 | 0,h=>by omega
 | k + 1,h=>by
  rcases Int.lt_or_le n (f k) with h1 | h1
  ·obtain ⟨a,ha,h2⟩:=qic h0 h1
   exact ⟨a,by omega,h2⟩
  ·exact ⟨k,by omega,h1,h⟩
theorem qlL {n:Int} (h0:0 <= n) (h1:n <= 73048):∃ c,IsCiv n c:=by
 obtain ⟨k,hk,b1,b2⟩:=qic (f:=qcz) (n:=n) h0 (k:=200) (by rw [qsi]; omega)
 have e:qcz (k + 1) = qcz k + ylS (2000 + k):=rfl
 obtain ⟨m,hm,c1,c2⟩:=qic (f:=qb1 (2000 + k)) (n:=n - qcz k) (by show (0:Int) <= _; omega) (k:=12) (by rw [qNm]; omega)
 have e2:qb1 (2000 + k) (m + 1) = qb1 (2000 + k) m + mlS (2000 + k) (m + 1):=rfl
 exact ⟨(2000 + k,m + 1,n - qcz k - qb1 (2000 + k) m + 1),k,m,hk,hm,rfl,rfl,by simp only; omega,by simp only; omega,by simp only; omega⟩
noncomputable def qlp (n:Int):Int × Int × Int:=if h:0 <= n /\ n <= 73048 then (qlL h.1 h.2).choose else (0,0,0)
theorem qjL {n:Int} (h0:0 <= n) (h1:n <= 73048):IsCiv n (qlp n):=by
 unfold qlp
 rw [dif_pos ⟨h0,h1⟩]
 exact (qlL h0 h1).choose_spec
def qJQ (y m d:Int):Option Int:=if 2000 <= y /\ y <= 2199 /\ 1 <= m /\ m <= 12 /\ 1 <= d /\ d <= mlS y m.toNat then some (qcz (y - 2000).toNat + qb1 y (m - 1).toNat + d - 1) else none
theorem qKb {y m d n:Int} (h:IsCiv n (y,m,d)):qJQ y m d = some n:=by
 obtain ⟨k,j,hk,hj,hy,hm,h1,h2,hn⟩:=h
 simp only at hy hm h1 h2 hn
 have e1:(y - 2000).toNat = k:=by omega
 have e2:(m - 1).toNat = j:=by omega
 have e3:m.toNat = j + 1:=by omega
 unfold qJQ
 rw [e1,e2,e3,if_pos ⟨by omega,by omega,by omega,by omega,h1,h2⟩,hn]
end Go.Tk
namespace Go.Proofs.H35
open Go Go.Eng Go.Tk
set_option maxRecDepth 20000
theorem qNW {y:Int} (h:0 <= y):(br (y.tmod 4 == 0) (br (y.tmod 100 != 0) (some true) (some (y.tmod 400 == 0))) (some false)) = some (qlA y):=by
 rw [Int.tmod_eq_emod_of_nonneg h,Int.tmod_eq_emod_of_nonneg h,Int.tmod_eq_emod_of_nonneg h]
 unfold qlA
 cases (y % 4 == 0) <;> cases h2:(y % 100 == 0) <;> simp only [br_true,br_false,bne,h2,Bool.not_true,Bool.not_false,Bool.true_and,Bool.false_and,Bool.true_or,Bool.false_or]
theorem qEK (n:Int):(br (decide (n >= 0)) (some (decide (n <= 73048))) (some false)) = some (decide (n >= 0) && decide (n <= 73048)):=by cases decide (n >= 0) <;> rfl
theorem m12 {m:Nat} (h1:1 <= m) (h2:m <= 12):m = 1 \/ m = 2 \/ m = 3 \/ m = 4 \/ m = 5 \/ m = 6 \/ m = 7 \/ m = 8 \/ m = 9 \/ m = 10 \/ m = 11 \/ m = 12:=by omega
theorem qxJ {x:Int} (h1:-1000000000 <= x) (h2:x <= 1000000000):IntKind.i64.wrap x = x:=wrap64 (by omega) (by omega)
theorem qsC {y:Int} (h:0 <= y):qhN y = some (qlA y):=by
 rw [qwJ,qjl]
 exact (biS (qNW h)).trans rfl
theorem qbT {y:Int} (h:0 <= y) {m:Nat} (h1:1 <= m) (h2:m <= 12):qc3 y (m:Int) = some (mlS y m):=by
 rw [qww,qi8]
 by_cases hm:m = 2
 ·subst hm
  rw [qsC h]
  refine (biS (v:=qlA y) rfl).trans ?_
  cases hl:qlA y
  ·refine (brF rfl).trans ?_
   show some (28:Int) = some (mlS y 2)
   unfold mlS; rw [hl]; rfl
  ·refine (brT rfl).trans ?_
   show some (29:Int) = some (mlS y 2)
   unfold mlS; rw [hl]; rfl
 ·have hb:((m:Int) == 2) = false:=by rw [beq_eq_false_iff_ne]; omega
  refine (biS (v:=false) (by rw [hb]; rfl)).trans ((brF rfl).trans ?_)
  rcases m12 h1 h2 with rfl | rfl | rfl | rfl | rfl | rfl | rfl | rfl | rfl | rfl | rfl | rfl
  ·rfl
  ·exact absurd rfl hm
  all_goals rfl
def q1A (x0:Int):Int:=bif decide (x0 > 2100) then IntKind.i64.wrap (IntKind.i64.wrap (365 * IntKind.i64.wrap (x0 - 2000)) + IntKind.i64.wrap (IntKind.i64.wrap ((IntKind.i64.wrap (IntKind.i64.wrap (x0 - 2000) + 3)).tdiv 4) - 1))
 else IntKind.i64.wrap (IntKind.i64.wrap (365 * IntKind.i64.wrap (x0 - 2000)) + IntKind.i64.wrap ((IntKind.i64.wrap (IntKind.i64.wrap (x0 - 2000) + 3)).tdiv 4))
theorem qMN:((List.range 201).all fun k=>q1A (2000 + (k:Nat)) == qcz k) = true:=by decide +kernel
theorem qeA {k:Nat} (h:k <= 200):qgp (2000 + (k:Int)) = some (qcz k):=by
 have:=List.all_eq_true.1 qMN k (List.mem_range.2 (by omega))
 rw [beq_iff_eq] at this
 rw [qwC,qje,<- this]
 unfold q1A
 cases decide ((2000 + (k:Int)) > 2100) <;> rfl
theorem quu {k:Nat} (h:k <= 200):0 <= qcz k /\ qcz k <= 73049:=by
 have h1:=qew (Nat.zero_le k)
 have h2:=qew h
 rw [qsi] at h2
 exact ⟨h1,h2⟩
theorem qlM (y:Int) {m:Nat} (h:m <= 12):0 <= qb1 y m /\ qb1 y m <= 366:=by
 have h1:=qfG y (Nat.zero_le m)
 have h2:=qfG y h
 rw [qNm] at h2
 have:=qE0 y
 exact ⟨h1,by omega⟩
theorem qW1 {y:Int} (h:0 <= y) {M:Nat} (hM:M < 12):∀ (k j:Nat) (a:Int),j + k = M -> 0 <= a -> a <= 100000 + qb1 y j -> qat (fun v=>(qi6 v).ev) (y,((M + 1:Nat):Int),a,((j + 1:Nat):Int)) = some (0,y,((M + 1:Nat):Int),a + (qb1 y M - qb1 y j),((M + 1:Nat):Int)):=by
 intro k
 induction k with
 | zero=>
  intro j a hj h0 h1
  have e:j = M:=by omega
  subst e
  rw [qaX (j:=0) ?_]
  ·rw [show a + (qb1 y j - qb1 y j) = a by omega]
  ·show (qed y ((j + 1:Nat):Int) a ((j + 1:Nat):Int)).ev = _
   rw [qed]
   exact (brF (by simp)).trans rfl
 | succ k ih=>
  intro j a hj h0 h1
  have hc:=qlM y (m:=j + 1) (by omega)
  have hm:=qq5 y (j + 1)
  have e1:qb1 y (j + 1) = qb1 y j + mlS y (j + 1):=rfl
  rw [qcr (v':=(y,((M + 1:Nat):Int),a + mlS y (j + 1),((j + 1 + 1:Nat):Int))) ?_]
  ·rw [ih (j + 1) _ (by omega) (by omega) (by omega),show a + mlS y (j + 1) + (qb1 y M - qb1 y (j + 1)) = a + (qb1 y M - qb1 y j) by omega]
  ·show (qed y ((M + 1:Nat):Int) a ((j + 1:Nat):Int)).ev = _
   rw [qed]
   refine (brT (decide_eq_true (by omega))).trans ((biS (qbT h (by omega) (by omega))).trans ?_)
   show some (Rd.next (y,((M + 1:Nat):Int),IntKind.i64.wrap (a + mlS y (j + 1)),IntKind.i64.wrap (((j + 1:Nat):Int) + 1))) = _
   rw [qxJ (by omega) (by omega),qxJ (by omega) (by omega)]
   rfl
def qR1 (y m d:Int):Int × Int:=match qJQ y m d with
 | some n=>(n,0)
 | none=>(0,1)
theorem qng {y m d:Int} (h:¬ (2000 <= y /\ y <= 2199 /\ 1 <= m /\ m <= 12 /\ 1 <= d /\ d <= mlS y m.toNat)):qR1 y m d = (0,1):=by
 unfold qR1 qJQ
 rw [if_neg h]
theorem qNq {k M:Nat} {d:Int} (hk:k < 200) (hM:M < 12) (h1:1 <= d) (h2:d <= mlS (2000 + k) (M + 1)):qR1 (2000 + k) ((M + 1:Nat):Int) d = (qcz k + qb1 (2000 + k) M + d - 1,0):=by
 have:=qKb (y:=2000 + k) (m:=((M + 1:Nat):Int)) (d:=d) (n:=qcz k + qb1 (2000 + k) M + d - 1) ⟨k,M,hk,hM,rfl,by simp,h1,h2,rfl⟩
 unfold qR1
 rw [this]
theorem qsD (y m d:Int):qjY y m d = some (qR1 y m d):=by
 rw [qwP,qjr]
 by_cases hy:2000 <= y /\ y <= 2199
 ·have b0:br (decide (y < 2000)) (some true) (some (decide (y > 2199))) = some false:=by rw [decide_eq_false (by omega),decide_eq_false (by omega)]; rfl
  refine (biS b0).trans ?_
  by_cases hm:1 <= m /\ m <= 12
  ·have b1:br false (some true) (some (decide (m < 1))) = some false:=by rw [decide_eq_false (by omega)]; rfl
   have b2:br false (some true) (some (decide (m > 12))) = some false:=by rw [decide_eq_false (by omega)]; rfl
   refine (biS b1).trans ((biS b2).trans ?_)
   obtain ⟨k,rfl⟩:∃ k:Nat,y = 2000 + k:=⟨(y - 2000).toNat,by omega⟩
   obtain ⟨M,rfl⟩:∃ M:Nat,m = ((M + 1:Nat):Int):=⟨(m - 1).toNat,by omega⟩
   have hlen:=qbT (y:=2000 + k) (by omega) (m:=M + 1) (by omega) (by omega)
   by_cases hd:1 <= d
   ·have b3:br false (some true) (some (decide (d < 1))) = some false:=by rw [decide_eq_false (by omega)]; rfl
    refine (biS b3).trans ?_
    rw [hlen]
    refine (biS (v:=decide (d > mlS (2000 + k) (M + 1))) rfl).trans ?_
    by_cases hd2:d <= mlS (2000 + k) (M + 1)
    ·have hm:=qq5 (2000 + k) (M + 1)
     have hb:=quu (k:=k) (by omega)
     have hc:=qlM (2000 + k) (m:=M) (by omega)
     refine (brF (decide_eq_false (by omega))).trans ((biS (qeA (by omega))).trans ?_)
     rw [qNq (by omega) (by omega) hd hd2]
     have e:IntKind.i64.wrap (IntKind.i64.wrap (qcz k + d) - 1) = qcz k + d - 1:=by
      rw [qxJ (x:=qcz k + d) (by omega) (by omega),qxJ (by omega) (by omega)]
     have hl:=qW1 (y:=2000 + k) (by omega) (M:=M) (by omega) M 0 (qcz k + d - 1) (by omega) (by omega) (by show _ <= 100000 + (0:Int); omega)
     refine (biS (v:=(2000 + (k:Int),((M + 1:Nat):Int),qcz k + d - 1 + (qb1 (2000 + k) M - qb1 (2000 + k) 0),((M + 1:Nat):Int))) ?_).trans ?_
     ·rw [e,qmx]
      show pj 0 (qat _ (2000 + (k:Int),((M + 1:Nat):Int),qcz k + d - 1,((0 + 1:Nat):Int))) = _
      rw [hl]; rfl
     ·show some (qcz k + d - 1 + (qb1 (2000 + k) M - qb1 (2000 + k) 0),(0:Int)) = _
      rw [show qb1 (2000 + (k:Int)) 0 = 0 from rfl,show qcz k + d - 1 + (qb1 (2000 + (k:Int)) M - 0) = qcz k + qb1 (2000 + (k:Int)) M + d - 1 by omega]
    ·rw [qng fun h=>hd2 (by have:=h.2.2.2.2.2; rw [show ((M + 1:Nat):Int).toNat = M + 1 by omega] at this; exact this)]
     exact (brT (decide_eq_true (by omega))).trans rfl
   ·have b3:br false (some true) (some (decide (d < 1))) = some true:=by rw [decide_eq_true (by omega)]; rfl
    rw [qng fun h=>hd h.2.2.2.2.1]
    exact (biS b3).trans ((biS (v:=true) rfl).trans ((brT rfl).trans rfl))
  ·rw [qng fun h=>hm ⟨h.2.2.1,h.2.2.2.1⟩]
   have:∃ c,br false (some true) (some (decide (m < 1))) = some c /\ br c (some true) (some (decide (m > 12))) = some true:=by
    by_cases h1:m < 1
    ·exact ⟨true,by rw [decide_eq_true h1]; rfl,rfl⟩
    ·exact ⟨false,by rw [decide_eq_false h1]; rfl,by rw [decide_eq_true (by omega)]; rfl⟩
   obtain ⟨c,c1,c2⟩:=this
   exact (biS c1).trans ((biS c2).trans ((biS (v:=true) rfl).trans ((biS (v:=true) rfl).trans ((brT rfl).trans rfl))))
 ·rw [qng fun h=>hy ⟨h.1,h.2.1⟩]
  have b0:br (decide (y < 2000)) (some true) (some (decide (y > 2199))) = some true:=by
   by_cases h1:y < 2000
   ·rw [decide_eq_true h1]; rfl
   ·rw [decide_eq_false h1,decide_eq_true (by omega)]; rfl
  exact (biS b0).trans ((biS (v:=true) rfl).trans ((biS (v:=true) rfl).trans ((biS (v:=true) rfl).trans ((biS (v:=true) rfl).trans ((brT rfl).trans rfl)))))
theorem qsA (n:Int):qbj n = some (decide (n >= 0) && decide (n <= 73048)):=by
 rw [qlR,qhp]
 exact (biS (qEK n)).trans rfl
theorem qSx {n:Int} {k:Nat} (hk:k < 200) (h1:qcz k <= n) (h2:n < qcz (k + 1)):∀ (j a:Nat),a + j = k -> qat (fun v=>(qoh v).ev) (n,2000 + (a:Int)) = some (0,n,2000 + (k:Int)):=by
 have hn:0 <= n /\ n <= 73048:=by
  have q1:=quu (k:=k) (by omega)
  have q2:=quu (k:=k + 1) (by omega)
  omega
 intro j
 induction j with
 | zero=>
  intro a ha
  have e:a = k:=by omega
  subst e
  refine qaX ?_
  show (qfy n (2000 + (a:Int))).ev = _
  rw [qfy,qxJ (x:=2000 + (a:Int) + 1) (by omega) (by omega),show 2000 + (a:Int) + 1 = 2000 + ((a + 1:Nat):Int) by omega]
  exact (biS (qeA (k:=a + 1) (by omega))).trans ((brF (decide_eq_false (show ¬ qcz (a + 1) <= n by omega))).trans rfl)
 | succ j ih=>
  intro a ha
  have hb:=qew (show a + 1 <= k by omega)
  rw [qcr (v':=(n,2000 + ((a + 1:Nat):Int))) ?_]
  ·exact ih (a + 1) (by omega)
  ·show (qfy n (2000 + (a:Int))).ev = _
   rw [qfy,qxJ (x:=2000 + (a:Int) + 1) (by omega) (by omega),show 2000 + (a:Int) + 1 = 2000 + ((a + 1:Nat):Int) by omega]
   exact (biS (qeA (k:=a + 1) (by omega))).trans ((brT (decide_eq_true (show qcz (a + 1) <= n by omega))).trans rfl)
theorem qSy {y r:Int} (hy:0 <= y) {M:Nat} (hM:M < 12) (h1:qb1 y M <= r) (h2:r < qb1 y (M + 1)):∀ (k j:Nat),j + k = M -> qat (fun v=>(qoi v).ev) (r - qb1 y j,y,((j + 1:Nat):Int)) = some (0,r - qb1 y M,y,((M + 1:Nat):Int)):=by
 have hr:0 <= r /\ r <= 366:=by
  have q1:=qlM y (m:=M) (by omega)
  have q2:=qlM y (m:=M + 1) (by omega)
  omega
 intro k
 induction k with
 | zero=>
  intro j hj
  have e:j = M:=by omega
  subst e
  have e1:qb1 y (j + 1) = qb1 y j + mlS y (j + 1):=rfl
  refine qaX ?_
  show (qfz (r - qb1 y j) y ((j + 1:Nat):Int)).ev = _
  rw [qfz]
  exact (biS (qbT hy (by omega) (by omega))).trans ((brF (decide_eq_false (by omega))).trans rfl)
 | succ k ih=>
  intro j hj
  have hc:=qfG y (show j + 1 <= M by omega)
  have hc0:=qlM y (m:=j) (by omega)
  have hm:=qq5 y (j + 1)
  have e1:qb1 y (j + 1) = qb1 y j + mlS y (j + 1):=rfl
  rw [qcr (v':=(r - qb1 y (j + 1),y,((j + 1 + 1:Nat):Int))) ?_]
  ·exact ih (j + 1) (by omega)
  ·show (qfz (r - qb1 y j) y ((j + 1:Nat):Int)).ev = _
   rw [qfz]
   refine (biS (qbT hy (by omega) (by omega))).trans ((brT (decide_eq_true (by omega))).trans ((biS (qbT hy (by omega) (by omega))).trans ?_))
   show some (Rd.next (IntKind.i64.wrap (r - qb1 y j - mlS y (j + 1)),y,IntKind.i64.wrap (((j + 1:Nat):Int) + 1))) = _
   rw [qxJ (by omega) (by omega),qxJ (by omega) (by omega),show r - qb1 y j - mlS y (j + 1) = r - qb1 y (j + 1) by omega]
   rfl
theorem qzj:∀ a:Nat,qcz a <= 366 * a
 | 0=>by decide
 | a + 1=>by
  have:=qzj a
  have:=qE0 (2000 + a)
  simp only [qcz]; omega
theorem qgo (n:Int):qgn n = some (qlp n):=by
 rw [qwB,qjd]
 refine (biS (qsA n)).trans ?_
 by_cases hn:0 <= n /\ n <= 73048
 ·have hv:(decide (n >= 0) && decide (n <= 73048)) = true:=by rw [decide_eq_true hn.1,decide_eq_true hn.2]; rfl
  refine (brF (by rw [hv]; rfl)).trans ?_
  obtain ⟨k,M,hk,hM,hy,hmo,h1,h2,he⟩:=qjL hn.1 hn.2
  obtain ⟨a1,a2,a3,a4⟩:=IsCiv.year hM hy h1 h2 he
  have hciv:qlp n = (2000 + (k:Int),((M + 1:Nat):Int),n - qcz k - qb1 (2000 + (k:Int)) M + 1):=by
   rw [hy] at he
   refine Prod.ext hy (Prod.ext (by rw [hmo]; simp) ?_)
   show (qlp n).2.2 = n - qcz k - qb1 (2000 + (k:Int)) M + 1
   omega
  rw [hciv]
  rw [hy] at a3 a4
  have hg:n.tdiv 366 = ((n.toNat / 366:Nat):Int):=by
   rw [Int.tdiv_eq_ediv_of_nonneg hn.1]; omega
  have hgk:n.toNat / 366 <= k:=by
   have q:=qzj (n.toNat / 366)
   rcases Nat.lt_or_ge k (n.toNat / 366) with hlt | hge
   ·have:=qew (show k + 1 <= n.toNat / 366 from hlt)
    omega
   ·exact hge
  have e1:IntKind.i64.wrap (2000 + IntKind.i64.wrap (n.tdiv 366)) = 2000 + ((n.toNat / 366:Nat):Int):=by
   rw [hg,qxJ (x:=((n.toNat / 366:Nat):Int)) (by omega) (by omega),qxJ (by omega) (by omega)]
  have hl0:=qSx hk a1 a2 (k - n.toNat / 366) (n.toNat / 366) (by omega)
  refine (biS (v:=(n,2000 + (k:Int))) ?_).trans ?_
  ·rw [e1,qqX,hl0]; rfl
  ·refine (biS (qeA (k:=k) (by omega))).trans ?_
   have hl1:=qSy (y:=2000 + (k:Int)) (r:=n - qcz k) (by omega) hM a3 a4 M 0 (by omega)
   have hb:=quu (k:=k) (by omega)
   have hc:=qlM (2000 + (k:Int)) (m:=M) (by omega)
   refine (biS (v:=(n - qcz k - qb1 (2000 + (k:Int)) M,2000 + (k:Int),((M + 1:Nat):Int))) ?_).trans ?_
   ·rw [qqY]
    show pj 0 (qat _ (IntKind.i64.wrap (n - qcz k),2000 + (k:Int),((0 + 1:Nat):Int))) = _
    rw [qxJ (by omega) (by omega)]
    have e0:n - qcz k - qb1 (2000 + (k:Int)) 0 = n - qcz k:=by show n - qcz k - 0 = _; omega
    rw [e0] at hl1
    rw [hl1]; rfl
   ·show some (2000 + (k:Int),((M + 1:Nat):Int),IntKind.i64.wrap (n - qcz k - qb1 (2000 + (k:Int)) M + 1)) = _
    rw [qxJ (by omega) (by omega)]
 ·have hv:(decide (n >= 0) && decide (n <= 73048)) = false:=by
   by_cases h0:n >= 0
   ·rw [decide_eq_false (p:=n <= 73048) (by omega),Bool.and_false]
   ·rw [decide_eq_false h0]; rfl
  refine (brT (by rw [hv]; rfl)).trans ?_
  unfold qlp
  rw [dif_neg hn]; rfl
end Go.Proofs.H35
namespace Go.Proofs.H35
open Go Go.Eng Go.Tk
set_option maxRecDepth 20000
theorem qsc (s:Bs):Ok (qjW s) fun _=>True:=by
 have hl:∀ n:Nat,n <= 3 -> s.length = 3 -> Lo (qko (s,(n:Int))) 2 fun w=>∃ m:Nat,m <= 3 /\ w = (s,(m:Int)):=by
  intro n hn hs
  rw [qmv]
  refine qfq (fun n=>(s,(n:Int))) 3 2 (fun n _=>?_) n hn
  simp only [qi4,qmW]
  by_cases hn:n < 3
  ·have hi:inB s.length (n:Int) = true:=qkg (by omega)
   refine qaE (decide_eq_true (by omega)) ?_
   (repeat' (first | exact qah trivial | exact qaJ trivial | exact qaQ (by decide) | exact qbO ⟨hn,by simp only [qbH hn (by decide:3<=9223372036854775807)]⟩ | refine qaE (hi) ?_ | refine qd8 (hi) ?_ | refine qax (Q:=fun _=>True) ?_ (fun _ _=>?_) | refine qao (fun _=>?_) (fun _=>?_) | refine qbd (fun _=>?_) (fun _=>?_)))
  ·exact qbN (decide_eq_false (by omega)) (qaQ (by decide))
 rw [qwN,qjp]
 refine qao (fun _=>qah trivial) (fun h=>?_)
 have hs:s.length = 3:=by have:((s.length:Nat):Int) = 3:=(by simpa using h); omega
 exact qdu (hl 0 (by decide) hs) (fun _ _=>qah trivial) (fun _ _=>qah trivial)
theorem qdm (n:Int):Ok (qfb n) fun _=>True:=by
 rw [qlS,qhq]
 (repeat' (first | exact qah trivial | exact qaJ trivial | exact qaQ (by decide) | refine qax (Q:=fun _=>True) ?_ (fun _ _=>?_) | refine qao (fun _=>?_) (fun _=>?_) | refine qbd (fun _=>?_) (fun _=>?_)))
theorem qsB (n:Int):Ok (qhL n) fun _=>True:=by
 rw [qwF,qjh]
 (repeat' (first | exact qah trivial | exact qaJ trivial | exact qaQ (by decide) | refine qax (Q:=fun _=>True) ?_ (fun _ _=>?_) | refine qao (fun _=>?_) (fun _=>?_) | refine qbd (fun _=>?_) (fun _=>?_)))
theorem qgd (n:Int):Ok (qdO n) fun _=>True:=by
 rw [qwO,qjq]
 (repeat' (first | exact qah trivial | exact qaJ trivial | exact qaQ (by decide) | refine qax (Q:=fun _=>True) ?_ (fun _ _=>?_) | refine qao (fun _=>?_) (fun _=>?_) | refine qbd (fun _=>?_) (fun _=>?_)))
theorem qsd (s:Bs):Ok (qjX s) fun b=>b = true -> s.length <= 16:=by
 by_cases hb:s.length <= 16
 ·refine Ok.mono (P:=fun _=>True) ?_ (fun _ _ _=>hb)
  rw [qlT,qhr]
  cases s with
  | nil=>exact qam (b:=true) rfl (qam (b:=true) rfl (qam (b:=true) rfl (qaE rfl (qah trivial))))
  | cons c r=>
   have h0:inB (c :: r).length 0 = true:=qkg (n:=0) (by simp)
   have h9:(c :: r).length <= 9223372036854775807:=by omega
   have hl:∀ n:Nat,n <= (c :: r).length -> Lo (qkp (c :: r,(n:Int))) 2 fun w=>∃ m:Nat,m <= (c :: r).length /\ w = (c :: r,(m:Int)):=by
    intro n hn
    rw [qmw]
    refine qfq (fun n:Nat=>(c :: r,(n:Int))) (c :: r).length 2 (fun n _=>?_) n hn
    simp only [qi5,qmX]
    by_cases hn:n < (c :: r).length
    ·refine qaE (decide_eq_true (by omega)) ?_
     (repeat' (first | exact qah trivial | exact qaJ trivial | exact qaQ (by decide) | exact qbO ⟨hn,by simp only [qbH hn h9]⟩ | refine qaE (qkg hn) ?_ | refine qd8 (qkg hn) ?_ | refine qax (Q:=fun _=>True) ?_ (fun _ _=>?_) | refine qao (fun _=>?_) (fun _=>?_) | refine qbd (fun _=>?_) (fun _=>?_)))
    ·exact qbN (decide_eq_false (by omega)) (qaQ (by decide))
   (repeat' (first | refine qdu ( hl 0 (Nat.zero_le _)) (fun _ _=>?_) (fun _ _=>?_) | exact qah trivial | exact qaJ trivial | exact qaQ (by decide) | refine qaE (h0) ?_ | refine qd8 (h0) ?_ | refine qax (Q:=fun _=>True) ?_ (fun _ _=>?_) | refine qao (fun _=>?_) (fun _=>?_) | refine qbd (fun _=>?_) (fun _=>?_)))
 ·rw [qlT,qhr]
  refine qam (b:=true) ?_ (qam (b:=true) rfl (qam (b:=true) rfl (qaE rfl (qah (fun h=>by cases h)))))
  rw [decide_eq_true (p:=(s.length:Int) > 16) (by omega)]
  cases decide ((s.length:Int) < 1) <;> rfl
theorem qbY {l:List Int} (h9:l.length <= 9223372036854775807):Ok (qgq (EIn l)) fun _=>True:=by
 rw [qwH,qjj]
 cases l with
 | nil=>
  have e0:Lo (qhX (EIn [],1)) 2 fun w=>w = (EIn [],1):=by rw [qhY]; exact qB6 (j:=1) rfl (by decide)
  exact qdu e0 (fun _ _=>qah trivial) (fun _ _=>qah trivial)
 | cons c r=>
  have hl:Lo (qhX (EIn (c :: r),1)) 2 fun w=>∃ m:Nat,m <= (c :: r).length /\ w = (EIn (c :: r),(m:Int)):=by
   rw [qhY]
   refine qCE (fun n:Nat=>(EIn (c :: r),(n:Int))) (c :: r).length 2 (fun n hn1 _=>?_) (by simp)
   simp only [qi2,qmV]
   by_cases hn:n < (c :: r).length
   ·refine qaE (qlz hn) ?_
    have hp:qcO [CS.int IntKind.i64] (EIn (c :: r)) (IntKind.wrap .i64 ((n:Int) - 1)) = true:=qKo (fun _=>rfl) hn hn1 h9
    (repeat' (first | exact qah trivial | exact qaJ trivial | exact qaQ (by decide) | exact qbO ⟨hn,by simp only [qbH hn h9]⟩ | refine qaE (qxj hn) ?_ | refine qd8 (qxj hn) ?_ | refine qaE (hp) ?_ | refine qd8 (hp) ?_ | refine qax (Q:=fun _=>True) ?_ (fun _ _=>?_) | refine qao (fun _=>?_) (fun _=>?_) | refine qbd (fun _=>?_) (fun _=>?_)))
   ·exact qbN (qpj hn) (qaQ (by decide))
  (repeat' (first | refine qdu ( hl) (fun _ _=>?_) (fun _ _=>?_) | exact qah trivial | exact qaJ trivial | exact qaQ (by decide) | refine qax (Q:=fun _=>True) ?_ (fun _ _=>?_) | refine qao (fun _=>?_) (fun _=>?_) | refine qbd (fun _=>?_) (fun _=>?_)))
theorem qpl (nm:Bs) {ws hs:List Int} (hw:ws.length <= 9223372036854775807) (hh:hs.length <= 9223372036854775807):Ok (qjV nm (EIn ws) (EIn hs)) fun e=>e = 0 -> nm.length <= 16:=by
 have h0:Lo (qkm (0,nm,EIn ws,EIn hs)) 2 fun w=>∃ m:Nat,m <= ws.length /\ w = ((m:Int),nm,EIn ws,EIn hs):=by
  rw [qms]
  refine qfq (fun n:Nat=>((n:Int),nm,EIn ws,EIn hs)) ws.length 2 (fun n _=>?_) 0 (Nat.zero_le _)
  simp only [qiZ,qmT]
  by_cases hn:n < ws.length
  ·refine qaE (qlz hn) ?_
   (repeat' (first | exact qah trivial | exact qaJ trivial | exact qaQ (by decide) | exact qbO ⟨hn,by simp only [qbH hn hw]⟩ | refine qaE (qxj hn) ?_ | refine qd8 (qxj hn) ?_ | refine qax (Q:=fun _=>True) ?_ (fun _ _=>?_) | refine qao (fun _=>?_) (fun _=>?_) | refine qbd (fun _=>?_) (fun _=>?_)))
  ·exact qbN (qpj hn) (qaQ (by decide))
 have h1:Lo (qkn (0,nm,EIn ws,EIn hs)) 2 fun w=>∃ m:Nat,m <= hs.length /\ w = ((m:Int),nm,EIn ws,EIn hs):=by
  rw [qmt]
  refine qfq (fun n:Nat=>((n:Int),nm,EIn ws,EIn hs)) hs.length 2 (fun n _=>?_) 0 (Nat.zero_le _)
  simp only [qi1,qmU]
  by_cases hn:n < hs.length
  ·refine qaE (qlz hn) ?_
   (repeat' (first | exact qah trivial | exact qaJ trivial | exact qaQ (by decide) | exact qbO ⟨hn,by simp only [qbH hn hh]⟩ | refine qaE (qxj hn) ?_ | refine qd8 (qxj hn) ?_ | refine qax (Q:=fun _=>True) (qdm _) (fun _ _=>?_) | refine qaE (qid (qdm _)) ?_ | refine qd8 (qid (qdm _)) ?_ | refine qax (Q:=fun _=>True) ?_ (fun _ _=>?_) | refine qao (fun _=>?_) (fun _=>?_) | refine qbd (fun _=>?_) (fun _=>?_)))
  ·exact qbN (qpj hn) (qaQ (by decide))
 rw [qwG,qji]
 refine qax (qsd nm) (fun b hb=>qao (fun _=>qah (fun h=>by cases h)) (fun hn=>?_))
 have hk:nm.length <= 16:=hb (by simpa using hn)
 refine Ok.mono (P:=fun _=>True) ?_ (fun _ _ _=>hk)
 refine qdu h0 (fun _ _=>qah trivial) ?_
 rintro _ ⟨m,_,rfl⟩
 refine qax (Q:=fun _=>True) (by (repeat' (first | exact qah trivial | exact qaJ trivial | exact qaQ (by decide) | refine qax (Q:=fun _=>True) (qbY hw) (fun _ _=>?_) | refine qaE (qid (qbY hw)) ?_ | refine qd8 (qid (qbY hw)) ?_ | refine qax (Q:=fun _=>True) ?_ (fun _ _=>?_) | refine qao (fun _=>?_) (fun _=>?_) | refine qbd (fun _=>?_) (fun _=>?_)))) (fun _ _=>qao (fun _=>qah trivial) (fun _=>qao (fun _=>qah trivial) (fun _=>qdu h1 (fun _ _=>qah trivial) ?_)))
 rintro _ ⟨m,_,rfl⟩
 (repeat' (first | exact qah trivial | exact qaJ trivial | exact qaQ (by decide) | refine qax (Q:=fun _=>True) (qbY hh) (fun _ _=>?_) | refine qaE (qid (qbY hh)) ?_ | refine qd8 (qid (qbY hh)) ?_ | refine qax (Q:=fun _=>True) ?_ (fun _ _=>?_) | refine qao (fun _=>?_) (fun _=>?_) | refine qbd (fun _=>?_) (fun _=>?_)))
theorem qpm (x0 x1 x2 x3 x4 x5 x6 x7 x8 x9:Int) (x10 x11 s:Bs) {ws hs:List Int} (hw:ws.length <= 9223372036854775807) (hh:hs.length <= 9223372036854775807) :
  Ok (qhM x0 x1 x2 x3 x4 x5 x6 x7 x8 x9 x10 x11 s (EIn ws) (EIn hs)) fun e=>e = 0 -> s.length <= 16:=by
 rw [qwI,qjk]
 have step:∀ {α:Type} {P:Int -> Prop} [Inhabited α] {o:Option α} {f:α -> DT Int} {e:DT Int},Ok o (fun _=>True) -> (∀ y,Ok (f y).ev P) -> Ok (DT.bi o f e).ev P:=fun h k=>qax h fun y _=>k y
 have tot:∀ (c:Bool) (d:Bool),Ok (br c (some true) (some d)) fun _=>True:=fun c d=>by cases c <;> exact qaJ trivial
 have tot2:∀ (c:Bool) (o:Option Bool),Ok o (fun _=>True) -> Ok (br c (some true) (br (sm o) (some !gv o) none)) fun _=>True:=fun c o h=>by
  cases c
  ·show Ok (br (sm o) (some !gv o) none) _
   exact qd8 (qid h) (qaJ trivial)
  ·exact qaJ trivial
 refine step (tot _ _) fun y0=>step (tot _ _) fun y1=>step (tot _ _) fun y2=>step (tot2 _ _ (qgd _)) fun y3=>step (tot2 _ _ (qgd _)) fun y4=>step (tot2 _ _ (qgd _)) fun y5=>
  step (tot2 _ _ (qdm _)) fun y6=>step (tot _ _) fun y7=>step (tot _ _) fun y8=>step (tot _ _) fun y9=>step (tot _ _) fun y10=>?_
 refine qao (fun _=>qah (fun h=>by cases h)) (fun _=>?_)
 refine step (tot _ _) fun y11=>step (?_:Ok _ fun _=>True) fun y12=>step (tot2 _ _ (qsB _)) fun y13=>?_
 ·(repeat' (first | exact qah trivial | exact qaJ trivial | exact qaQ (by decide) | refine qax (Q:=fun _=>True) ?_ (fun _ _=>?_) | refine qao (fun _=>?_) (fun _=>?_) | refine qbd (fun _=>?_) (fun _=>?_)))
 refine qao (fun _=>qah (fun h=>by cases h)) (fun _=>?_)
 refine step (qsc _) fun y14=>qao (fun _=>qah (fun h=>by cases h)) (fun _=>?_)
 refine qax (qpl s hw hh) (fun e he=>?_)
 refine qao (fun h=>qah fun h0=>?_) (fun h=>?_)
 ·exact he h0
 ·have hk:s.length <= 16:=he (by simpa using h)
  exact qao (fun _=>qah fun _=>hk) (fun _=>qah fun _=>hk)
theorem qNx (x0 x1 x2 x3 x4 x5 x6 x7 x8 x9:Int) (x10 x11 s:Bs) (ws hs:List Int) :
  Ok (qpQ x0 x1 x2 x3 x4 x5 x6 x7 x8 x9 x10 x11 s (EIn ws) (EIn hs)) fun b=>b = true -> (x5 <= 40 /\ hs.length <= 40) /\ ws.length <= 10 /\ s.length <= 16:=by
 rw [qAp,qoI]
 simp only [qc2,ev_bi_some,List.length_map]
 cases hc:(decide (x5 <= 40) && decide ((hs.length:Int) <= 40) && decide ((ws.length:Int) <= 10)) with
 | false=>
  refine qam (b:=false) rfl (qah fun h=>by cases h)
 | true=>
  simp only [Bool.and_eq_true,decide_eq_true_eq] at hc
  have hR:=qpm x0 x1 x2 x3 x4 x5 x6 x7 x8 x9 x10 x11 s (ws:=ws) (hs:=hs) (by omega) (by omega)
  obtain ⟨e,he,hk⟩:=hR
  rw [he]
  refine qam (b:=(e == 0)) rfl (qah fun h=>?_)
  have:e = 0:=by simpa using h
  exact ⟨⟨by omega,by omega⟩,by omega,hk this⟩
end Go.Proofs.H35
namespace Go.Proofs.H35
open Go Go.Eng Go.Tk
set_option maxRecDepth 20000
theorem qjO (n:Int):Ok (qqd n) fun _=>True:=by
 rw [qAT,qpb]
 (repeat' (first | exact qah trivial | exact qaJ trivial | exact qaQ (by decide) | refine qax (Q:=fun _=>True) ((⟨_,qaU n,trivial⟩:Ok _ fun _=>True)) (fun _ _=>?_) | refine qaE (qid ((⟨_,qaU n,trivial⟩:Ok _ fun _=>True))) ?_ | refine qd8 (qid ((⟨_,qaU n,trivial⟩:Ok _ fun _=>True))) ?_ | refine qax (Q:=fun _=>True) ?_ (fun _ _=>?_) | refine qao (fun _=>?_) (fun _=>?_) | refine qbd (fun _=>?_) (fun _=>?_)))
theorem qjM {l:List Int} (h9:l.length <= 9223372036854775807) (a:Int):Ok (ql2 (EIn l) a) fun _=>True:=by
 have hl:Lo (qqz (EIn l,a,((EIn l).length:Int),0)) 2 fun w=>∃ m:Nat,m <= l.length /\ w = (EIn l,a,((EIn l).length:Int),(m:Int)):=by
  rw [qqA]
  refine qfq (fun n:Nat=>(EIn l,a,((EIn l).length:Int),(n:Int))) l.length 2 (fun n _=>?_) 0 (Nat.zero_le _)
  simp only [qn6,qrE]
  by_cases hn:n < l.length
  ·refine qaE (qlz hn) ?_
   (repeat' (first | exact qah trivial | exact qaJ trivial | exact qaQ (by decide) | exact qbO ⟨hn,by simp only [qbH hn h9]⟩ | refine qaE (qxj hn) ?_ | refine qd8 (qxj hn) ?_ | refine qax (Q:=fun _=>True) ?_ (fun _ _=>?_) | refine qao (fun _=>?_) (fun _=>?_) | refine qbd (fun _=>?_) (fun _=>?_)))
  ·exact qbN (qpj hn) (qaQ (by decide))
 rw [qz9,qos]
 refine qax (Q:=fun _=>True) ?_ (fun _ _=>qah trivial)
 rw [qAe,qox]
 (repeat' (first | refine qdu ( hl) (fun _ _=>?_) (fun _ _=>?_) | exact qah trivial | exact qaJ trivial | exact qaQ (by decide) | refine qax (Q:=fun _=>True) ?_ (fun _ _=>?_) | refine qao (fun _=>?_) (fun _=>?_) | refine qbd (fun _=>?_) (fun _=>?_)))
section
variable {nm:Bs} {ws hs:List Int} (hw:ws.length <= 9223372036854775807) (hh:hs.length <= 9223372036854775807)
include hw hh
theorem qeR (n:Int):Ok (qmd nm (EIn ws) (EIn hs) n) fun _=>True:=by
 rw [qAM,qo5]
 refine qam (qaU n) (qao (fun _=>?_) (fun _=>qah trivial))
 refine qax (qjO n) (fun y _=>qax (qjM hw y) (fun _ _=>qao (fun _=>?_) (fun _=>qah trivial)))
 exact qax (qjM hh n) (fun _ _=>qah trivial)
theorem qhB (n:Int):Ok (qpV n nm (EIn ws) (EIn hs)) fun _=>True:=by
 rw [qAw,qoP]
 exact qax (qeR hw hh n) (fun _ _=>qah trivial)
theorem qhC (n:Int):Ok (qpW n nm (EIn ws) (EIn hs)) fun _=>True:=by
 rw [qAx,qoQ]
 exact qax (qeR hw hh n) (fun _ _=>qah trivial)
theorem qg1 (n:Int):Ok (qpX n 1 nm (EIn ws) (EIn hs)) fun _=>True:=by
 rw [qAy,qoR]
 refine qam (qaU n) (qao (fun _=>qah trivial) (fun hv=>?_))
 have hv':0 <= n /\ n <= 73048:=by simpa [Bool.not_eq_false'] using hv
 have hl:Lo (qqH (n,1,nm,EIn ws,EIn hs)) 2 fun _=>True:=by
  rw [qqI]
  refine qdP (fun v:qdI=>∃ d:Int,(0 <= d /\ d <= 73049) /\ v = (d,1,nm,EIn ws,EIn hs)) (fun v=>(73049 - v.1).toNat) (fun k _=>k < 2 /\ True) ?_ _ ⟨n,by omega,rfl⟩
  rintro _ ⟨d,hd,rfl⟩
  simp only [qob,qrJ]
  refine qam (qaU d) (qao (fun hq=>?_) (fun _=>qaQ ⟨by decide,trivial⟩))
  have hq':0 <= d /\ d <= 73048:=by simpa using hq
  refine qax (qhB hw hh d) (fun _ _=>qao (fun _=>qaQ ⟨by decide,trivial⟩) (fun _=>qbO ?_))
  have e:IntKind.i64.wrap (d + 1) = d + 1:=Go.Eng.wrap64 (by omega) (by omega)
  rw [e]
  exact ⟨⟨d + 1,by omega,rfl⟩,by show (73049 - (d + 1)).toNat < (73049 - d).toNat; omega⟩
 exact qdu hl (fun _ _=>qah trivial) (fun _ _=>qah trivial)
theorem qgi (n:Int):Ok (qpP n (-1) nm (EIn ws) (EIn hs)) fun _=>True:=by
 rw [qAo,qoH]
 refine qam (qaU n) (qao (fun _=>qah trivial) (fun hv=>?_))
 have hv':0 <= n /\ n <= 73048:=by simpa [Bool.not_eq_false'] using hv
 have hl:Lo (qqD (n,-1,nm,EIn ws,EIn hs)) 2 fun _=>True:=by
  rw [qqE]
  refine qdP (fun v:qdG=>∃ d:Int,(-1 <= d /\ d <= 73048) /\ v = (d,-1,nm,EIn ws,EIn hs)) (fun v=>(v.1 + 1).toNat) (fun k _=>k < 2 /\ True) ?_ _ ⟨n,by omega,rfl⟩
  rintro _ ⟨d,hd,rfl⟩
  simp only [qn9,qrH]
  refine qam (qaU d) (qao (fun hq=>?_) (fun _=>qaQ ⟨by decide,trivial⟩))
  have hq':0 <= d /\ d <= 73048:=by simpa using hq
  refine qax (qhC hw hh d) (fun _ _=>qao (fun _=>qaQ ⟨by decide,trivial⟩) (fun _=>qbO ?_))
  have e:IntKind.i64.wrap (d + -1) = d + -1:=Go.Eng.wrap64 (by omega) (by omega)
  rw [e]
  exact ⟨⟨d + -1,by omega,rfl⟩,by show (d + -1 + 1).toNat < (d + 1).toNat; omega⟩
 exact qdu hl (fun _ _=>qah trivial) (fun _ _=>qah trivial)
theorem qeQ (n:Int):Ok (qmc nm (EIn ws) (EIn hs) n) fun _=>True:=by
 rw [qAL,qo4]
 exact qax (qg1 hw hh n) (fun _ _=>qah trivial)
theorem qeS (n:Int):Ok (qme nm (EIn ws) (EIn hs) n) fun _=>True:=by
 rw [qAN,qo6]
 exact qax (qgi hw hh n) (fun _ _=>qah trivial)
end
theorem qJN {n:Int} (h0:0 <= n) (h1:n <= 73048):∃ y m d:Int,qlp n = (y,m,d) /\ 0 <= y /\ 1 <= m /\ m <= 12:=by
 obtain ⟨k,m,_,hm,h2,h3,_⟩:=qjL h0 h1
 exact ⟨(qlp n).1,(qlp n).2.1,(qlp n).2.2,rfl,by omega,by omega,by omega⟩
theorem qiF (n:Int):Ok (qmf n) fun _=>True:=by
 rw [qAP,qo8]
 refine qam (qaU n) (qao (fun _=>qah trivial) (fun hv=>?_))
 have hv':0 <= n /\ n <= 73048:=by simpa [Bool.not_eq_false'] using hv
 obtain ⟨y,m,d,hc,hy,hm,hm2⟩:=qJN hv'.1 hv'.2
 refine qam (qgo n) ?_
 rw [hc]
 obtain ⟨k,rfl⟩:∃ k:Nat,m = k:=⟨m.toNat,by omega⟩
 exact qam (qbT hy (by omega) (by omega)) (qah trivial)
theorem qdp {nm:Bs} {ws hs:List Int} (hw:ws.length <= 9223372036854775807) (hh:hs.length <= 9223372036854775807) (n r:Int):Ok (qc5 nm (EIn ws) (EIn hs) n r) fun _=>True:=by
 rw [qAv,qoO]
 refine qam (qaU n) (qao (fun _=>qah trivial) (fun hv=>?_))
 refine qao (fun _=>qah trivial) (fun _=>qao (fun _=>qax (qeQ hw hh n) (fun _ _=>qah trivial)) (fun _=>qao (fun _=>qax (qeS hw hh n) (fun _ _=>qah trivial)) (fun _=>qao (fun _=>?_) (fun _=>qah trivial))))
 refine qax (qeQ hw hh n) (fun y _=>qax (Q:=fun _=>True) ?_ (fun _ _=>qao (fun _=>qah trivial) (fun _=>qax (qeS hw hh n) (fun _ _=>qah trivial))))
 refine qbd (fun _=>qd8 (qid (qiF n)) (qaJ trivial)) (fun _=>qaJ trivial)
end Go.Proofs.H35
namespace Go.Proofs.H35
open Go Go.Eng Go.Tk
set_option maxRecDepth 20000
theorem qdY (x0 x1 x2:Int):Ok (qb3 x0 x1 x2) fun _=>True:=by
 rw [qAD,qoW]
 refine qam (qaU x0) ?_
 simp only [qjF]
 refine qam rfl (qam rfl (qam rfl (qam rfl (qao (fun _=>qah trivial) (fun hv=>?_)))))
 simp only [Bool.or_eq_false_iff,Bool.not_eq_false',Bool.and_eq_true,decide_eq_true_eq,decide_eq_false_iff_not] at hv
 obtain ⟨y,m,d,hc,hy,hm,hm2⟩:=qJN (n:=x0) (by omega) (by omega)
 refine qam (qgo x0) ?_
 rw [hc]
 refine qam rfl (qao (fun _=>qah trivial) (fun hq=>?_))
 simp only [Bool.or_eq_false_iff,decide_eq_false_iff_not] at hq
 generalize IntKind.i64.wrap (IntKind.i64.wrap (IntKind.i64.wrap (IntKind.i64.wrap (12 * y) + m) - 1) + x1) = q at hq ⊢
 have e1:IntKind.i64.wrap (q.tdiv 12) = q / 12:=by rw [Int.tdiv_eq_ediv_of_nonneg (by omega)]; exact Go.Eng.wrap64 (by omega) (by omega)
 have e2:IntKind.i64.wrap (q.tmod 12 + 1) = ((q % 12).toNat + 1:Nat):=by
  rw [Int.tmod_eq_emod_of_nonneg (by omega),Go.Eng.wrap64 (by omega) (by omega)]; omega
 rw [e1,e2]
 refine qam (qbT (by omega) (by omega) (by omega)) ?_
 exact qam (qsD _ _ _) (qah trivial)
theorem qWC (v:qdK):qve v = some (0,v):=by
 rw [qqS]
 exact qaX rfl
abbrev dI (a C n t0 t1 t2 t3 t4 t5 t6 t7 t8 t9:Int) (c u s:Bs) (W H:List AV):qcm:=.inl (a,0,C,n,t0,t1,t2,t3,t4,t5,t6,t7,t8,t9,c,u,s,W,H)
abbrev dR (a C n t0 t1 t2 t3 t4 t5 t6 t7 t8 t9:Int) (c u s:Bs) (W H l:List AV):qcm:=.inr (a,0,C,n,t0,t1,t2,t3,t4,t5,t6,t7,t8,t9,c,u,s,W,H,l)
noncomputable def dE (a n t3 t4:Int) (s:Bs) (W H:List AV):Int:=(gv (qc5 s W H (gv (qb3 t3 (IntKind.i64.wrap (IntKind.i64.wrap (n + 1) * t4)) a)).fst 2)).snd
noncomputable def dF (a n t3 t4:Int):Int:=(gv (qb3 t3 (IntKind.i64.wrap (IntKind.i64.wrap (n + 1) * t4)) a)).snd
section
variable {a C t0 t1 t2 t3 t4 t5 t6 t7 t8 t9:Int} {c u s:Bs} {ws hs:List Int}
def DQ (a C t0 t1 t2 t3 t4 t5 t6 t7 t8 t9:Int) (c u s:Bs) (ws hs:List Int) (k:Nat) (w:qcm):Prop:=
 (k = 0 /\ ∃ n,w = dI a C n t0 t1 t2 t3 t4 t5 t6 t7 t8 t9 c u s (EIn ws) (EIn hs) /\ dE a n t3 t4 s (EIn ws) (EIn hs) ≠ 0) \/
 (k = 1 /\ ∃ n,w = dI a C n t0 t1 t2 t3 t4 t5 t6 t7 t8 t9 c u s (EIn ws) (EIn hs) /\ dF a n t3 t4 ≠ 0) \/
 (k = 3 /\ ∃ n l,w = dR a C n t0 t1 t2 t3 t4 t5 t6 t7 t8 t9 c u s (EIn ws) (EIn hs) l /\ dE a n t3 t4 s (EIn ws) (EIn hs) ≠ 0) \/
 (k = 4 /\ ∃ n l,w = dR a C n t0 t1 t2 t3 t4 t5 t6 t7 t8 t9 c u s (EIn ws) (EIn hs) l /\ dF a n t3 t4 ≠ 0) \/
 (k = 5 /\ ∃ n,∃ l:List Int,w = dR a C n t0 t1 t2 t3 t4 t5 t6 t7 t8 t9 c u s (EIn ws) (EIn hs) (EIn l) /\ (l.length:Int) = C)
theorem qFt (hw:ws.length <= 9223372036854775807) (hh:hs.length <= 9223372036854775807) (hC:1 <= C /\ C <= 120) :
  Ok (qhb (dI a C 0 t0 t1 t2 t3 t4 t5 t6 t7 t8 t9 c u s (EIn ws) (EIn hs))) fun p=>DQ a C t0 t1 t2 t3 t4 t5 t6 t7 t8 t9 c u s ws hs p.1 p.2:=by
 rw [qqT]
 refine qdP (fun v=>v = dI a C 0 t0 t1 t2 t3 t4 t5 t6 t7 t8 t9 c u s (EIn ws) (EIn hs) \/ ∃ l:List Int,(1 <= l.length /\ (l.length:Int) <= C) /\ v = dR a C (l.length:Int) t0 t1 t2 t3 t4 t5 t6 t7 t8 t9 c u s (EIn ws) (EIn hs) (EIn l))
  (Sum.elim (fun _=>200) (fun v=>(C - v.2.2.2.1).toNat)) _ ?_ _ (.inl rfl)
 rintro _ (rfl | ⟨l,hl,rfl⟩)
 ·show Ok (qkZ a 0 C 0 t0 t1 t2 t3 t4 t5 t6 t7 t8 t9 c u s (EIn ws) (EIn hs)).ev _
  unfold qkZ
  refine qaE (decide_eq_true (by omega)) ?_
  obtain ⟨y0,e0,_⟩:=qdY t3 (IntKind.i64.wrap (IntKind.i64.wrap (0 + 1) * t4)) a
  refine qam e0 ?_
  have hF:dF a 0 t3 t4 = y0.2:=by unfold dF; rw [e0]; rfl
  by_cases hz:y0.2 = 0
  ·refine qaE (by simpa using hz) ?_
   obtain ⟨y1,e1,_⟩:=qdp (nm:=s) hw hh y0.1 2
   refine qam e1 ?_
   have hE:dE a 0 t3 t4 s (EIn ws) (EIn hs) = y1.2:=by unfold dE; rw [e0]; show (gv (qc5 s (EIn ws) (EIn hs) y0.1 2)).snd = _; rw [e1]; rfl
   refine qao (fun _=>qbO ?_) (fun h=>qaQ ?_)
   ·exact ⟨.inr ⟨[y1.1],⟨by simp,by simp; omega⟩,rfl⟩,by show (C - 1).toNat < 200; omega⟩
   ·exact .inl ⟨rfl,0,rfl,by rw [hE]; simpa using h⟩
  ·refine qbN (by simpa using hz) (qbN (by simpa using hz) (qaQ ?_))
   exact .inr (.inl ⟨rfl,0,rfl,by rw [hF]; exact hz⟩)
 ·show Ok (qk0 a 0 C (l.length:Int) t0 t1 t2 t3 t4 t5 t6 t7 t8 t9 c u s (EIn ws) (EIn hs) (EIn l)).ev _
  unfold qk0
  refine qao (fun hlt=>?_) (fun hlt=>qaQ (.inr (.inr (.inr (.inr ⟨rfl,_,l,rfl,by have:=of_decide_eq_false hlt; omega⟩)))))
  have hlt:=of_decide_eq_true hlt
  obtain ⟨y0,e0,_⟩:=qdY t3 (IntKind.i64.wrap (IntKind.i64.wrap ((l.length:Int) + 1) * t4)) a
  refine qam e0 ?_
  have hF:dF a (l.length:Int) t3 t4 = y0.2:=by unfold dF; rw [e0]; rfl
  by_cases hz:y0.2 = 0
  ·refine qaE (by simpa using hz) ?_
   obtain ⟨y1,e1,_⟩:=qdp (nm:=s) hw hh y0.1 2
   refine qam e1 ?_
   have hE:dE a (l.length:Int) t3 t4 s (EIn ws) (EIn hs) = y1.2:=by unfold dE; rw [e0]; show (gv (qc5 s (EIn ws) (EIn hs) y0.1 2)).snd = _; rw [e1]; rfl
   refine qao (fun _=>?_) (fun h=>qaQ ?_)
   ·refine qaE (by simp only [List.length_map,room,lim]; exact decide_eq_true (by omega)) (qbO ?_)
    have ew:IntKind.i64.wrap ((l.length:Int) + 1) = ((l ++ [y1.1]).length:Int):=by rw [Go.Eng.wrap64 (by omega) (by omega)]; simp
    rw [ew]
    refine ⟨.inr ⟨l ++ [y1.1],⟨by simp,by simp; omega⟩,?_⟩,?_⟩
    ·simp only [dR,EIn,List.map_append,List.map_cons,List.map_nil]
    ·show (C - ((l ++ [y1.1]).length:Int)).toNat < (C - (l.length:Int)).toNat
     simp; omega
   ·exact .inr (.inr (.inl ⟨rfl,_,_,rfl,by rw [hE]; simpa using h⟩))
  ·refine qbN (by simpa using hz) (qbN (by simpa using hz) (qaQ ?_))
   exact .inr (.inr (.inr (.inl ⟨rfl,_,_,rfl,by rw [hF]; exact hz⟩)))
end
theorem qS1 {α τ:Type} [Inhabited τ] {o:Option (Nat × τ)} {f0 f1 f2 f3 f4 f5:τ -> DT α} {e:DT α} {Q:Nat -> τ -> Prop} {P:α -> Prop} (h:Ok o fun p=>Q p.1 p.2) (hk:∀ k w,Q k w -> k < 6) (h0:∀ w,Q 0 w -> Ok (f0 w).ev P) (h1:∀ w,Q 1 w -> Ok (f1 w).ev P)
  (h2:∀ w,Q 2 w -> Ok (f2 w).ev P) (h3:∀ w,Q 3 w -> Ok (f3 w).ev P) (h4:∀ w,Q 4 w -> Ok (f4 w).ev P) (h5:∀ w,Q 5 w -> Ok (f5 w).ev P) :
  Ok (DT.bi (pj 0 o) f0 (DT.bi (pj 1 o) f1 (DT.bi (pj 2 o) f2 (DT.bi (pj 3 o) f3 (DT.bi (pj 4 o) f4 (DT.bi (pj 5 o) f5 e)))))).ev P:=
 qbs (Q:=Q) h h0 fun h=>qbs (Q:=fun k w=>k ≠ 0 /\ Q k w) h (fun w hw=>h1 w hw.2) fun h=>qbs (Q:=fun k w=>k ≠ 1 /\ k ≠ 0 /\ Q k w) h (fun w hw=>h2 w hw.2.2) fun h=>qbs (Q:=fun k w=>k ≠ 2 /\ k ≠ 1 /\ k ≠ 0 /\ Q k w) h (fun w hw=>h3 w hw.2.2.2) fun h=>
  qbs (Q:=fun k w=>k ≠ 3 /\ k ≠ 2 /\ k ≠ 1 /\ k ≠ 0 /\ Q k w) h (fun w hw=>h4 w hw.2.2.2.2) fun h=>qbs (Q:=fun k w=>k ≠ 4 /\ k ≠ 3 /\ k ≠ 2 /\ k ≠ 1 /\ k ≠ 0 /\ Q k w) h (fun w hw=>h5 w hw.2.2.2.2.2) fun h=>qfp h fun p hp=>by
   have:=hk _ _ hp.2.2.2.2.2.2
   omega
theorem qiL (x0 x1 x2 x3 x4 x5 x6 x7 x8 x9:Int) (x10 x11:Bs) {s:Bs} {ws hs:List Int} (h0:s.length <= 9223372036854775807) (hw:ws.length <= 9223372036854775807) (hh:hs.length <= 9223372036854775807) :
  Ok (qqb x0 x1 x2 x3 x4 x5 x6 x7 x8 x9 x10 x11 s (EIn ws) (EIn hs)) fun r=>r.2 = 0 -> qiN x0 x1 x2 x3 x4 x5 x6 x7 x8 x9 /\ ∃ l:List Int,r.1 = EIn l /\ 1 <= l.length /\ l.length <= 120:=by
 rw [qAS,qpa]
 refine qax (qib x0 x1 x2 x3 x4 x5 x6 x7 x8 x9 x10 x11 h0 hw hh) (fun e he=>qao (fun h=>qah (fun h0=>absurd h0 (by simpa using h))) (fun h=>?_))
 have ht:=he (by simpa using h)
 have hC:1 <= x5 /\ x5 <= 120:=by unfold qiN at ht; omega
 refine qam (qgo x3) ?_
 generalize qlp x3 = cv
 obtain ⟨c1,c2,a⟩:=cv
 refine qam (b:=(a,0,x0,x1,x2,x3,x4,x5,x6,x7,x8,x9,x10,x11,s,EIn ws,EIn hs)) (by rw [qWC]; rfl) ?_
 refine qS1 (Q:=DQ a x5 x0 x1 x2 x3 x4 x5 x6 x7 x8 x9 x10 x11 s ws hs) (qFt hw hh hC) ?_ ?_ ?_ ?_ ?_ ?_ ?_
 ·rintro k w (⟨h,_⟩ | ⟨h,_⟩ | ⟨h,_⟩ | ⟨h,_⟩ | ⟨h,_⟩) <;> omega
 ·rintro w (⟨_,n,rfl,hE⟩ | ⟨h,_⟩ | ⟨h,_⟩ | ⟨h,_⟩ | ⟨h,_⟩)
  ·exact qaE (show (dE a n x3 x4 s (EIn ws) (EIn hs) != 0) = true from bne_iff_ne.2 hE) (qah fun h=>absurd h hE)
  all_goals omega
 ·rintro w (⟨h,_⟩ | ⟨_,n,rfl,hE⟩ | ⟨h,_⟩ | ⟨h,_⟩ | ⟨h,_⟩)
  ·omega
  ·exact qaE (show (dF a n x3 x4 != 0) = true from bne_iff_ne.2 hE) (qah fun h=>absurd h hE)
  all_goals omega
 ·rintro w (⟨h,_⟩ | ⟨h,_⟩ | ⟨h,_⟩ | ⟨h,_⟩ | ⟨h,_⟩) <;> omega
 ·rintro w (⟨h,_⟩ | ⟨h,_⟩ | ⟨_,n,l,rfl,hE⟩ | ⟨h,_⟩ | ⟨h,_⟩)
  ·omega
  ·omega
  ·exact qaE (show (dE a n x3 x4 s (EIn ws) (EIn hs) != 0) = true from bne_iff_ne.2 hE) (qah fun h=>absurd h hE)
  all_goals omega
 ·rintro w (⟨h,_⟩ | ⟨h,_⟩ | ⟨h,_⟩ | ⟨_,n,l,rfl,hE⟩ | ⟨h,_⟩)
  ·omega
  ·omega
  ·omega
  ·exact qaE (show (dF a n x3 x4 != 0) = true from bne_iff_ne.2 hE) (qah fun h=>absurd h hE)
  ·omega
 ·rintro w (⟨h,_⟩ | ⟨h,_⟩ | ⟨h,_⟩ | ⟨h,_⟩ | ⟨_,n,l,rfl,hl⟩)
  ·omega
  ·omega
  ·omega
  ·omega
  ·exact qbN (show ((0:Int) != 0) = false from rfl) (qah fun _=>⟨ht,l,rfl,by omega,by omega⟩)
end Go.Proofs.H35
namespace Go.Tk
open Go Go.Eng
set_option maxRecDepth 20000
structure Va where
 (name:Bs)
 (ty:Int)
def Va.av (x:Va):AV:=.agg [.str x.name,.int .i64 x.ty]
abbrev EI (l:List Int):List AV:=l.map (.int .i64)
abbrev ksI:List CS:=[CS.int IntKind.i64]
theorem okI {l:List Int} {n:Nat} (h:n < l.length):qcO ksI (EI l) (n:Int) = true:=qbV (fun _=>rfl) h
def qwY (t:Int):Bool:=decide (t >= 1) && decide (t <= 5)
def ariL:List ((Int × Int × Int) × Int):=[((5,1,1),1),((5,2,2),2),((5,3,3),3),((5,4,1),4),((6,1,1),1),((6,2,2),2),((6,3,3),3),((6,4,1),4),((6,4,4),1),((7,1,1),1),((7,1,2),2),((7,1,3),3),((7,2,1),2),((7,2,3),2),((7,3,1),3),((7,3,2),2),((8,1,1),1),((8,2,1),2),((8,2,2),1),((8,3,1),3)]
def qzg (op a b:Int):Option Int:=(ariL.find? fun p=>p.1 == (op,a,b)).map (·.2)
def q4Y (op a:Int):Int × Bool:=
 if op = 16 then bif a == 5 then (5,true) else (0,false)
 else if op = 9 then bif a == 1 || (a == 2 || a == 3) then (a,true) else (0,false)
 else (0,false)
def q5m (op a b:Int):Int × Bool:=
 if op = 10 \/ op = 11 then bif a == b then (5,true) else (0,false)
 else if op = 12 \/ op = 13 then bif a == b && a != 5 then (5,true) else (0,false)
 else if op = 14 \/ op = 15 then bif a == b && a == 5 then (5,true) else (0,false)
 else if op = 17 \/ op = 18 then bif a == b && a != 5 then (a,true) else (0,false)
 else match qzg op a b with
  | some t=>(t,true)
  | none=>(0,false)
def qT3 (op a b c:Int):Int × Bool:=bif op == 19 && (a == 5 && b == c) then (b,true) else (0,false)
def qU8 (op:Int) (l:List Int):Int × Bool:=bif !l.all qwY then (0,false) else match l with
 | [a]=>q4Y op a
 | [a,b]=>q5m op a b
 | [a,b,c]=>qT3 op a b c
 | _=>(0,false)
def qZW (vs:List Va) (s:Bs):Int × Int:=match vs.find? fun v=>v.name == s with
 | none=>(0,4)
 | some v=>bif qwY v.ty then (v.ty,0) else (0,3)
def q3k (op:Int) (p:List Int × Int):Int × Int:=bif p.2 != 0 then (0,p.2) else bif (qU8 op p.1).2 then ((qU8 op p.1).1,0) else (0,3)
mutual
def Ex.ty (vs:List Va):Ex -> Int × Int
 | .mk o _ s l=>if o = 1 then (1,0) else if o = 2 then (2,0) else if o = 3 then (3,0) else if o = 4 then qZW vs s else q3k o (Ex.tys vs l)
def Ex.tys (vs:List Va):List Ex -> List Int × Int
 | []=>([],0)
 | e :: l=>bif (Ex.ty vs e).2 != 0 then ([],(Ex.ty vs e).2) else bif (Ex.tys vs l).2 != 0 then ([],(Ex.tys vs l).2) else ((Ex.ty vs e).1 :: (Ex.tys vs l).1,0)
end
end Go.Tk
namespace Go.Tk
open Go Go.Eng
set_option maxRecDepth 20000
structure Vl where
 (ty n:Int)
deriving DecidableEq
def Vl.av (x:Vl):AV:=.agg [.int .i64 x.ty,.int .i64 x.n]
def qZX (v:Vl):Bool:=
 if v.ty = 1 then true else if v.ty = 2 then decide (-1000000000000 <= v.n) && decide (v.n <= 1000000000000)
 else if v.ty = 3 then decide (-1000000000 <= v.n) && decide (v.n <= 1000000000) else if v.ty = 4 then decide (0 <= v.n) && decide (v.n <= 73048)
 else if v.ty = 5 then v.n == 0 || v.n == 1 else false
def q3m (n:Int):Bool:=decide (-9223372036854775808 <= n) && decide (n <= 9223372036854775807)
def qOr (v n:Int):Int:=if v % n > n - v % n \/ (v % n = n - v % n /\ (v / n) % 2 = 1) then v / n + 1 else v / n
def qJY (t w:Int):Vl × Int:=bif q3m w && qZX ⟨t,w⟩ then (⟨t,w⟩,0) else (⟨0,0⟩,6)
def q2e (t:Int) (a b:Vl):Vl × Int:=
 if b.n = 0 then (⟨0,0⟩,7) else if a.ty = b.ty then qJY t (a.n.tdiv b.n)
 else if b.n = -9223372036854775808 then (⟨t,0⟩,0) else if b.n < 0 then qJY t (qOr (-a.n) (-b.n)) else qJY t (qOr a.n b.n)
def q3t (t:Int) (a b:Vl):Vl × Int:=if a.ty ≠ b.ty /\ a.ty ≠ 1 /\ b.ty ≠ 1 then qJY t (qOr (a.n * b.n) 1000000) else qJY t (a.n * b.n)
def bI (b:Bool):Int:=bif b then 1 else 0
def q5n (op t:Int) (a b:Vl):Vl × Int:=
 if op = 5 then qJY t (a.n + b.n) else if op = 6 then qJY t (a.n - b.n) else if op = 7 then q3t t a b else if op = 8 then q2e t a b
 else if op = 10 then (⟨t,bI (a.n == b.n)⟩,0) else if op = 11 then (⟨t,bI (a.n != b.n)⟩,0) else if op = 12 then (⟨t,bI (decide (a.n < b.n))⟩,0) else if op = 13 then (⟨t,bI (decide (a.n <= b.n))⟩,0)
 else if op = 14 then (⟨t,a.n * b.n⟩,0) else if op = 15 then (⟨t,max a.n b.n⟩,0) else if op = 17 then (⟨t,min a.n b.n⟩,0) else (⟨t,max a.n b.n⟩,0)
def opV (op t:Int):List Vl -> Vl × Int
 | [a]=>if op = 9 then qJY t (-a.n) else (⟨t,1 - a.n⟩,0)
 | [a,b]=>q5n op t a b
 | [a,b,c]=>(⟨t,if a.n = 1 then b.n else c.n⟩,0)
 | _=>(⟨0,0⟩,3)
def q2a (op:Int) (l:List Vl):Vl × Int:=
 bif !(qU8 op (l.map (·.ty))).2 then (⟨0,0⟩,3) else bif !l.all qZX then (⟨0,0⟩,1) else opV op (qU8 op (l.map (·.ty))).1 l
mutual
def qGP (vs:List Va) (env:List Vl):Ex -> Vl × Int
 | .mk o n s l=>if o = 1 then (⟨1,n⟩,0) else if o = 2 then (⟨2,n⟩,0) else if o = 3 then (⟨3,n⟩,0)
  else if o = 4 then ((env[vs.findIdx (fun v=>v.name == s)]?).getD ⟨0,0⟩,0) else if o = 19 then q5o vs env l else bif (qPx vs env l).2 != 0 then (⟨0,0⟩,(qPx vs env l).2) else q2a o (qPx vs env l).1
def q5o (vs:List Va) (env:List Vl):List Ex -> Vl × Int
 | [c,a,b]=>bif (qGP vs env c).2 != 0 then (⟨0,0⟩,(qGP vs env c).2) else if (qGP vs env c).1.n = 1 then qGP vs env a else qGP vs env b
 | _=>(⟨0,0⟩,3)
def qPx (vs:List Va) (env:List Vl):List Ex -> List Vl × Int
 | []=>([],0)
 | e :: l=>bif (qGP vs env e).2 != 0 then ([],(qGP vs env e).2) else bif (qPx vs env l).2 != 0 then ([],(qPx vs env l).2) else ((qGP vs env e).1 :: (qPx vs env l).1,0)
end
end Go.Tk
namespace Go.Tk
open Go Go.Eng
set_option maxRecDepth 20000
abbrev Mg:=Int × Int
end Go.Tk
namespace Go.Tk
open Go Go.Eng
set_option maxRecDepth 20000
theorem w64 (n:Int):IntKind.u64.wrap n = n % 18446744073709551616:=IntKind.wrap_u64 n
theorem qv8 (n:Int):IntKind.i64.wrap n = (n + 9223372036854775808) % 18446744073709551616 - 9223372036854775808:=by
 simp only [IntKind.wrap,IntKind.signed,IntKind.bits]
 simp
 omega
theorem qjG {x:Int}:((BitVec.ofInt 64 x).toNat:Int) = x % 18446744073709551616:=by
 rw [BitVec.toNat_ofInt]
 have:(2:Int) ^ 64 = 18446744073709551616:=by decide
 omega
theorem qMJ {x:Int} (h0:0 <= x) (h1:x < 18446744073709551616):IntKind.u64.wrap ((BitVec.ofInt 64 x &&& BitVec.ofInt 64 4294967295).toNat:Int) = x % 4294967296:=by
 have h:(BitVec.ofInt 64 4294967295).toNat = 2 ^ 32 - 1:=by decide
 have e:=qjG (x:=x)
 rw [BitVec.toNat_and,h,Nat.and_two_pow_sub_one_eq_mod,w64]
 have:(2:Nat) ^ 32 = 4294967296:=by decide
 omega
theorem qS2 {x y:Int} (h0:0 <= x) (h1:x < 1048576) (h2:0 <= y) (h3:y < 17592186044416):IntKind.u64.wrap ((BitVec.ofInt 64 (x * 17592186044416) ||| BitVec.ofInt 64 y).toNat:Int) = x * 17592186044416 + y:=by
 have e1:=qjG (x:=x * 17592186044416)
 have e2:=qjG (x:=y)
 have k:(2:Nat) ^ 44 = 17592186044416:=by decide
 have e3:(BitVec.ofInt 64 (x * 17592186044416)).toNat = 2 ^ 44 * x.toNat:=by rw [k]; omega
 rw [BitVec.toNat_or,e3,<- Nat.two_pow_add_eq_or_of_lt (by rw [k]; omega),w64,k]
 omega
def wid (v:Int):Mg:=(v / 18446744073709551616,v % 18446744073709551616)
theorem qst {hi lo:Int} (h0:0 <= hi) (h1:hi < 1000000) (h2:0 <= lo) (h3:lo < 18446744073709551616) {n q1 u q0:Int}
  (hn:n = hi * 17592186044416 + lo / 1048576) (hq1:q1 = n / 4096000000) (hu:u = (n - q1 * 4096000000) * 4294967296 + lo % 1048576 * 4096) (hq0:q0 = u / 4096000000) :
  0 <= q1 /\ q1 < 4294967296 /\ 0 <= q0 /\ q0 < 4294967296 /\ 0 <= u /\ u < 17592186044416000000 /\ q1 * 4294967296 + q0 = (hi * 18446744073709551616 + lo) / 1000000 /\ (u - q0 * 4096000000) / 4096 = (hi * 18446744073709551616 + lo) % 1000000:=by
 obtain ⟨r,hr⟩:∃ r,r = lo % 1048576:=⟨_,rfl⟩
 obtain ⟨r1,hr1⟩:∃ r1,r1 = n - q1 * 4096000000:=⟨_,rfl⟩
 have e1:hi * 18446744073709551616 + lo = n * 1048576 + r:=by omega
 have b1:0 <= r1 /\ r1 < 4096000000:=by omega
 have b2:0 <= r /\ r < 1048576:=by omega
 have e2:u = 4096 * (r1 * 1048576 + r):=by omega
 have e3:q0 = (r1 * 1048576 + r) / 1000000:=by omega
 have e4:hi * 18446744073709551616 + lo = q1 * 4294967296 * 1000000 + (r1 * 1048576 + r):=by omega
 have n0:0 <= n /\ n < 17592186044416000000:=by omega
 refine ⟨by omega,by omega,by omega,by omega,by omega,by omega,?_,?_⟩
 ·rw [e4]; omega
 ·rw [e4]; omega
end Go.Tk
namespace Go.Proofs.H35
open Go Go.Eng Go.Tk
set_option maxRecDepth 20000
abbrev i64 (n:Int):Prop:=-9223372036854775808 <= n /\ n < 9223372036854775808
theorem qdT {x:Int} (h0:0 <= x) (h1:x < 18446744073709551616):qeg x = true:=by
 unfold qeg; rw [decide_eq_true h0,decide_eq_true h1]; rfl
theorem qzk {p q:Prop} [Decidable p] [Decidable q] (h:p ↔ q):(decide p == decide q) = true:=by simp [h]
theorem qj1 {n:Int} (h:i64 n):qhR n = some (if n < 0 then -n else n):=by
 rw [qwS,qju]
 simp only [ev_br,ev_at,w64]
 by_cases c:n < 0
 ·rw [decide_eq_true c,if_pos c,cond_true]; refine congrArg some ?_; show @Eq Int _ _; omega
 ·rw [decide_eq_false c,if_neg c,cond_false]; refine congrArg some ?_; show @Eq Int _ _; omega
theorem qgm {x0 x1 v:Int} (h0:i64 x0) (h1:0 <= x1) (h2:x1 < 18446744073709551616) (hv:x0 * 18446744073709551616 + x1 = v) (hm:v ≠ -170141183460469231731687303715884105728):qgl x0 x1 = some (wid (-v)):=by
 rw [qwA,qjc]
 have e1:qeg (IntKind.u64.wrap (-1 - x1)) = true:=by rw [w64]; exact qdT (by omega) (by omega)
 have e2:qeg 1 = true:=rfl
 simp only [ev_br,ev_at,e1,e2,Bool.true_and]
 rw [show decide (0 <= 1) = true from rfl,cond_true]
 simp only [w64,qv8,wid]
 congr 1
 simp only [Prod.mk.injEq]
 refine ⟨?_,?_⟩ <;> omega
theorem qj0 {a b:Int} (ha:i64 a) (hb:i64 b):qhQ a b = some (wid (a * b)):=by
 rw [qwR,qjt,qj1 ha,qj1 hb]
 obtain ⟨u,hu⟩:∃ u,u = if a < 0 then -a else a:=⟨_,rfl⟩
 obtain ⟨t,ht⟩:∃ t,t = if b < 0 then -b else b:=⟨_,rfl⟩
 have u0:0 <= u /\ u <= 9223372036854775808:=by rw [hu]; split <;> omega
 have t0:0 <= t /\ t <= 9223372036854775808:=by rw [ht]; split <;> omega
 have hp0:0 <= u * t:=Int.mul_nonneg u0.1 t0.1
 have hp1:u * t <= 9223372036854775808 * 9223372036854775808:=Int.mul_le_mul u0.2 t0.2 t0.1 (by omega)
 rw [<- hu,<- ht]
 simp only [ev_bi_some,ev_br,ev_at]
 rw [qdT u0.1 (by omega),qdT t0.1 (by omega)]
 simp only [Bool.and_self,cond_true,if_true]
 have hs:(a * b = u * t /\ (a < 0 ↔ b < 0)) \/ (a * b = -(u * t) /\ ¬ (a < 0 ↔ b < 0)):=by
  rw [hu,ht]
  by_cases c:a < 0 <;> by_cases d:b < 0
  ·rw [if_pos c,if_pos d]; exact .inl ⟨by rw [Int.neg_mul_neg],by simp [c,d]⟩
  ·rw [if_pos c,if_neg d]; exact .inr ⟨by rw [Int.neg_mul,Int.neg_neg],by simp [c,d]⟩
  ·rw [if_neg c,if_pos d]; exact .inr ⟨by rw [Int.mul_neg,Int.neg_neg],by simp [c,d]⟩
  ·rw [if_neg c,if_neg d]; exact .inl ⟨rfl,by simp [c,d]⟩
 have hw:IntKind.i64.wrap (u * t / 18446744073709551616) = u * t / 18446744073709551616:=by rw [qv8]; omega
 rw [hw]
 rcases hs with ⟨h1,h2⟩ | ⟨h1,h2⟩
 ·rw [qzk h2,Bool.not_true,cond_false,h1]; rfl
 ·have:(decide (a < 0) == decide (b < 0)) = false:=by simpa using h2
  rw [this,Bool.not_false,cond_true,qgm (v:=u * t) (by simp only [i64]; omega) (by omega) (by omega) (by omega) (by omega),h1]
  rfl
theorem qg5 {lo n:Int} (h0:0 <= lo) (h1:lo < 18446744073709551616) (hn:0 < n):qma 0 lo n = some (lo / n,lo % n):=by
 rw [qpY,qlc]
 have e1:(n == 0) = false:=by simp; omega
 have e2:decide (n <= 0) = false:=decide_eq_false (by omega)
 have e3:decide (n ≠ 0) = true:=decide_eq_true (by omega)
 have e4:((0:Int) == 0) = true:=rfl
 rw [ev_br,e1,cond_false,ev_br,e2,cond_false,ev_br,e4,cond_true,ev_br,e3,cond_true,ev_br,cond_true,ev_at]
 rw [Int.tdiv_eq_ediv_of_nonneg h0,Int.tmod_eq_emod_of_nonneg h0,w64]
 have a1:=Int.ediv_nonneg h0 (show 0 <= n by omega)
 have a2:=Int.ediv_le_self n h0
 rw [Int.emod_eq_of_lt a1 (by omega)]
theorem wnn (x:Int):¬ (0:Int) > IntKind.u64.wrap x:=by rw [w64]; omega
theorem qnt {x0 x1 x2 x4 x5 x6 x7 x8:Int} (h:x7 < 4294967296):qqJ (x0,x1,x2,0,x4,x5,x6,x7,x8) = some (1,(x0,x1,x2,0,x4,x5,x6,x7,x8)):=by
 rw [qqK]
 refine qaX ?_
 have e1:decide (x7 >= 4294967296) = false:=decide_eq_false (by omega)
 have e2:IntKind.u64.wrap (x7 * 0) = 0:=by rw [Int.mul_zero]; rfl
 have e3:=decide_eq_false (wnn (IntKind.u64.wrap (4294967296 * x8) + x5))
 simp only [qoc,qrK,e1,e2,e3]
 rfl
theorem qnu {x0 x1 x2 x4 x5 x6 x7 x8:Int} (h:x8 < 4294967296):qkr (x0,x1,x2,0,x4,x5,x6,x7,x8) = some (1,(x0,x1,x2,0,x4,x5,x6,x7,x8)):=by
 rw [qqL]
 refine qaX ?_
 have e1:decide (x8 >= 4294967296) = false:=decide_eq_false (by omega)
 have e2:IntKind.u64.wrap (x8 * 0) = 0:=by rw [Int.mul_zero]; rfl
 have e3:=decide_eq_false (wnn (IntKind.u64.wrap (4294967296 * x6) + x4))
 simp only [qod,qrL,e1,e2,e3]
 rfl
set_option maxHeartbeats 1000000 in
theorem qjR {hi lo:Int} (h0:0 < hi) (h1:hi < 1000000) (h2:0 <= lo) (h3:lo < 18446744073709551616):qma hi lo 1000000 = some ((hi * 18446744073709551616 + lo) / 1000000,(hi * 18446744073709551616 + lo) % 1000000):=by
 rw [qpY,qlc]
 have b0:Lib.bitLen (1000000:Int).toNat = 20:=by decide
 have b1:IntKind.u64.wrap (64 - ((20:Nat):Int)) = 44:=by decide
 have b2:IntKind.u64.wrap (64 - 44) = 20:=by decide
 have b3:min (44:Int).toNat 64 = 44:=by decide
 have b4:min (20:Int).toNat 64 = 20:=by decide
 have y0:IntKind.u64.wrap (1000000 * 17592186044416) = 17592186044416000000:=by decide
 have y1:(17592186044416000000:Int).fdiv 4294967296 = 4096000000:=by decide
 have y2:IntKind.u64.wrap ((BitVec.ofInt 64 17592186044416000000 &&& BitVec.ofInt 64 4294967295).toNat:Int) = 0:=by decide
 have p44:(2:Int) ^ 44 = 17592186044416:=by decide
 have p20:(2:Int) ^ 20 = 1048576:=by decide
 have p32:(2:Int) ^ 32 = 4294967296:=by decide
 obtain ⟨N,hN⟩:∃ N,N = hi * 17592186044416 + lo / 1048576:=⟨_,rfl⟩
 obtain ⟨q1,hq1⟩:∃ q1,q1 = N / 4096000000:=⟨_,rfl⟩
 obtain ⟨u,hu⟩:∃ u,u = (N - q1 * 4096000000) * 4294967296 + lo % 1048576 * 4096:=⟨_,rfl⟩
 obtain ⟨q0,hq0⟩:∃ q0,q0 = u / 4096000000:=⟨_,rfl⟩
 obtain ⟨a1,a2,a3,a4,a5,a6,a7,a8⟩:=qst (by omega) h1 h2 h3 hN hq1 hu hq0
 have hN0:0 <= N /\ N < 17592186044416000000:=by omega
 have z0:IntKind.u64.wrap (hi * 17592186044416) = hi * 17592186044416:=by rw [w64]; omega
 have z1:lo.fdiv 1048576 = lo / 1048576:=Int.fdiv_eq_ediv_of_nonneg _ (by decide)
 have z2:IntKind.u64.wrap ((BitVec.ofInt 64 (hi * 17592186044416) ||| BitVec.ofInt 64 (lo / 1048576)).toNat:Int) = N:=by rw [qS2 (by omega) (by omega) (by omega) (by omega),hN]
 obtain ⟨m,hm⟩:∃ m,m = IntKind.u64.wrap (lo * 17592186044416):=⟨_,rfl⟩
 have hm':m = lo % 1048576 * 17592186044416:=by rw [hm,w64]; omega
 have z3:m.fdiv 4294967296 = lo % 1048576 * 4096:=by rw [Int.fdiv_eq_ediv_of_nonneg _ (by decide)]; omega
 have z4:IntKind.u64.wrap ((BitVec.ofInt 64 m &&& BitVec.ofInt 64 4294967295).toNat:Int) = 0:=by rw [qMJ (by omega) (by omega)]; omega
 have z5:IntKind.u64.wrap (N.tdiv 4096000000) = q1:=by rw [Int.tdiv_eq_ediv_of_nonneg hN0.1,w64]; omega
 have z6:IntKind.u64.wrap (N - IntKind.u64.wrap (q1 * 4096000000)) = N - q1 * 4096000000:=by simp only [w64]; omega
 have z7:IntKind.u64.wrap (IntKind.u64.wrap (IntKind.u64.wrap (N * 4294967296) + lo % 1048576 * 4096) - IntKind.u64.wrap (q1 * 17592186044416000000)) = u:=by simp only [w64]; omega
 have z8:IntKind.u64.wrap (u.tdiv 4096000000) = q0:=by rw [Int.tdiv_eq_ediv_of_nonneg a5,w64]; omega
 have z9:IntKind.u64.wrap (IntKind.u64.wrap (q1 * 4294967296) + q0) = (hi * 18446744073709551616 + lo) / 1000000:=by simp only [w64]; omega
 have z10:(IntKind.u64.wrap (IntKind.u64.wrap (IntKind.u64.wrap (u * 4294967296) + 0) - IntKind.u64.wrap (q0 * 17592186044416000000))).fdiv 17592186044416 = (hi * 18446744073709551616 + lo) % 1000000:=by
  rw [Int.fdiv_eq_ediv_of_nonneg _ (by decide)]
  simp only [w64]; omega
 have e1:((1000000:Int) == 0) = false:=rfl
 have e2:decide ((1000000:Int) <= hi) = false:=decide_eq_false (by omega)
 have e3:(hi == 0) = false:=by rw [beq_eq_false_iff_ne]; omega
 have e4:qeg 1000000 = true:=rfl
 have d44:decide ((0:Int) <= 44) = true:=rfl
 have d20:decide ((0:Int) <= 20) = true:=rfl
 have dn:decide ((4096000000:Int) ≠ 0) = true:=rfl
 simp only [b0,b1,b2,b3,b4,y0,y1,y2,p44,p20,p32,z0,z1,z2,<- hm,z3,z4,z5,z6,ev_br,e1,e2,e3,e4,d44,d20,dn,cond_true,cond_false,qnt a2]
 have hp0:∀ {τ:Type} (w:τ),pj 0 (some (1,w)) = none:=fun _=>rfl
 have hp1:∀ {τ:Type} (w:τ),pj 1 (some (1,w)) = some w:=fun _=>rfl
 simp only [hp0,hp1,ev_bi_none,ev_bi_some,ev_br,z7,z8,dn,cond_true,y0,d44,qnu a4,ev_at,b3,p44,z9,z10]
end Go.Proofs.H35
namespace Go.Proofs.H35
open Go Go.Eng Go.Tk
set_option maxRecDepth 20000
theorem qEF (x:Int):qeg (IntKind.u64.wrap x) = true:=qdT (by rw [w64]; omega) (by rw [w64]; omega)
theorem qr4 (n:Int):qgu n = some (n.fdiv (2 ^ 63),IntKind.u64.wrap n):=by rw [qlX,qhv]; rfl
theorem qlk (a b:Int):Ok (qgt a b) fun _=>True:=by
 rw [qlW,qhu]
 exact qam (qr4 _) (qao (fun _=>qah trivial) (fun _=>qah trivial))
theorem qtm (a c:Int) {b d:Int} (hb:qeg b = true) (hd:qeg d = true):Ok (qhO a b c d) fun _=>True:=by
 rw [qlU,qhs]
 refine qaE (by rw [hb,hd]; rfl) (qax (Q:=fun _=>True) (qbd (fun _=>qaJ trivial) (fun _=>qaJ trivial)) (fun _ _=>qao (fun _=>qah trivial) (fun _=>qah trivial)))
theorem qxC {v n:Int} (h0:0 <= v) (h1:v < 18446744073709551616) (n0:0 < n) (n1:n < 9223372036854775808):Ok (qhP 0 v n) fun r=>r = (0,v / n,v % n,0):=by
 have ea:qmh 0 v = some (0,v):=by rw [qqc,qlg]; rfl
 have e2:IntKind.u64.wrap n = n:=by rw [w64]; omega
 have r0:=Int.emod_nonneg v (show n ≠ 0 by omega)
 have r1:=Int.emod_lt_of_pos v n0
 have ed:ql9 0 v n = some (0,v / n,v % n):=by
  rw [qpS,qla,ev_br,decide_eq_true (show n ≠ 0 by omega),cond_true,Int.zero_tmod,qg5 h0 h1 n0,ev_bi_some,ev_br,cond_true,Int.zero_tdiv]
  rfl
 have es:qg6 0 (v / n) false = some (0,v / n,0):=by rw [qpT,qlb]; rfl
 rw [qlV,qht]
 refine qbN (decide_eq_false (by omega)) (qam ea ?_)
 rw [e2]
 refine qam ed (qam (b:=false) rfl (qbN rfl (qbN rfl (qam es (qah ?_)))))
 have e3:IntKind.i64.wrap (v % n) = v % n:=by rw [qv8]; omega
 show (0,v / n,IntKind.i64.wrap (v % n),(0:Int)) = _
 rw [e3]
theorem qiK (a b r n:Int) {m:Int} (h1:1 <= m) (h2:m <= 6):Ok (qmg a b r n m) fun _=>True:=by
 rw [qqa,qlf]
 refine qao (fun h5=>?_) (fun _=>?_)
 ·have h5':=of_decide_eq_true h5
  refine qao (fun _=>?_) (fun _=>?_)
  all_goals
   refine qao (fun _=>qah trivial) fun g0=>qao (fun _=>qah trivial) fun g1=>qao (fun _=>qah trivial) fun g2=>qao (fun _=>qah trivial) fun g3=>qaE (decide_eq_true ?_) (qah trivial)
   have k0:¬ m = 0:=of_decide_eq_false g0
   have k1:¬ m = 1:=of_decide_eq_false g1
   have k2:¬ m = 2:=of_decide_eq_false g2
   have k3:¬ m = 3:=of_decide_eq_false g3
   show m = 4
   omega
 ·(repeat' (first | exact qah trivial | exact qaJ trivial | exact qaQ (by decide) | refine qax (Q:=fun _=>True) ?_ (fun _ _=>?_) | refine qao (fun _=>?_) (fun _=>?_) | refine qbd (fun _=>?_) (fun _=>?_)))
theorem qdz {v n m:Int} (h0:0 <= v) (h1:v < 18446744073709551616) (n0:0 < n) (n1:n < 9223372036854775808) (m1:1 <= m) (m2:m <= 6):Ok (qj7 0 v n m) fun _=>True:=by
 rw [qpZ,qld]
 refine qax (qEx _ ⟨_,qfJ m,trivial⟩) (fun _ _=>qao (fun _=>qah trivial) (fun _=>?_))
 refine qax (qxC h0 h1 n0 n1) ?_
 rintro _ rfl
 have q0:=Int.ediv_nonneg h0 (show 0 <= n by omega)
 have q1:=Int.ediv_le_self n h0
 refine qao (fun _=>?_) (fun _=>?_)
 ·refine qax (qiK _ _ _ _ m1 m2) (fun y _=>qam (qr4 y) ?_)
  refine qax (qtm _ _ (qdT q0 (by show v / n < _; omega)) (qEF y)) (fun _ _=>qax (qlk _ _) (fun _ _=>qao (fun _=>qah trivial) (fun _=>qah trivial)))
 ·exact qax (qlk _ _) (fun _ _=>qao (fun _=>qah trivial) (fun _=>qah trivial))
def qQv (ppm ev m:Int):Prop:=(0 <= ppm /\ ppm <= 1000000) /\ (1 <= ev /\ ev <= 12) /\ (1 <= m /\ m <= 6)
theorem qki {ppm ev m p:Int} (h:qQv ppm ev m) (p0:0 <= p) (p1:p <= 1000000000000):Ok (qir ppm ev m p) fun _=>True:=by
 obtain ⟨⟨a0,a1⟩,⟨b0,b1⟩,m1,m2⟩:=h
 have c0:0 <= ppm * ev:=Int.mul_nonneg a0 (by omega)
 have c1:ppm * ev <= 1000000 * 12:=Int.mul_le_mul a1 b1 (by omega) (by omega)
 have d0:0 <= p * (ppm * ev):=Int.mul_nonneg p0 c0
 have d1:p * (ppm * ev) <= 1000000000000 * (1000000 * 12):=Int.mul_le_mul p1 c1 c0 (by omega)
 have ew:IntKind.i64.wrap (ppm * ev) = ppm * ev:=by rw [qv8]; omega
 rw [qAb,qou,ew]
 refine qam (qj0 ⟨by omega,by omega⟩ ⟨by omega,by omega⟩) ?_
 generalize p * (ppm * ev) = v at d0 d1
 have w1:(wid v).1 = 0:=by simp only [wid]; omega
 have w2:(wid v).2 = v:=by simp only [wid]; omega
 rw [w1,w2]
 exact qax (qdz d0 (by omega) (by omega) (by omega) m1 m2) (fun _ _=>qah trivial)
theorem qOq {ppm ev m p c:Int} (h:qQv ppm ev m) (p0:0 <= p) (p1:p <= 1000000000000) (c0:0 <= c) (c1:c <= 120) (pay:Int):Ok (qpK ppm ev m p c pay) fun _=>True:=by
 rw [qAg,qoz]
 have hl:Lo (qqB (p,pay,c,0,ppm,ev,m)) 2 fun _=>True:=by
  rw [qqC]
  refine qdP (fun v:qdF=>∃ p n:Int,(0 <= p /\ p <= 1000000000000) /\ (0 <= n /\ n <= c) /\ v = (p,pay,c,n,ppm,ev,m)) (fun v=>(c - v.2.2.2.1).toNat) (fun k _=>k < 2 /\ True) ?_ _ ⟨p,0,⟨p0,p1⟩,⟨by omega,c0⟩,rfl⟩
  rintro _ ⟨q,n,hq,hn,rfl⟩
  simp only [qn7,qrF]
  refine qao (fun hlt=>?_) (fun _=>qaQ ⟨by decide,trivial⟩)
  have hlt:=of_decide_eq_true hlt
  refine qax (qki h hq.1 hq.2) (fun y _=>qao (fun _=>qaQ ⟨by decide,trivial⟩) (fun hg=>qbO ?_))
  have hg:=of_decide_eq_false hg
  generalize IntKind.i64.wrap (IntKind.i64.wrap (q + y) - pay) = z at hg ⊢
  have ew:IntKind.i64.wrap (n + 1) = n + 1:=Go.Eng.wrap64 (by omega) (by omega)
  rw [ew]
  refine ⟨⟨_,n + 1,⟨?_,by omega⟩,⟨by omega,by omega⟩,rfl⟩,by show (c - (n + 1)).toNat < (c - n).toNat; omega⟩
  split <;> omega
 exact qdu hl (fun _ _=>qah trivial) (fun _ _=>qah trivial)
theorem qkE {ppm ev m p c:Int} (h:qQv ppm ev m) (p0:0 <= p) (p1:p <= 1000000000000) (c0:0 <= c) (c1:c <= 120) (pay bal:Int):Ok (ql6 pay ppm ev m p c bal) fun r=>r.2 = (ppm,ev,m,p,c,bal):=by
 rw [qAj,qoC]
 refine qax (qOq h p0 p1 c0 c1 pay) (fun _ _=>qax (Q:=fun _=>True) (qbd (fun _=>qaJ trivial) (fun _=>qaJ trivial)) (fun _ _=>qah rfl))
theorem qjy (ppm ev m p:Int):Ok (ql3 ppm ev m p) fun b=>b = true -> qQv ppm ev m /\ 0 <= p /\ p <= 1000000000000:=by
 rw [qAa,qot]
 simp only [qfJ,sm_some,gv_some,qFm,qc2]
 refine qam rfl (qam rfl (qam rfl (qam rfl (qam rfl (qam rfl (qah fun h=>?_))))))
 simp only [Bool.and_eq_true,decide_eq_true_eq] at h
 unfold qQv
 omega
theorem qgg (p ppm ev m:Int):Ok (qds p ppm ev m) fun _=>True:=by
 rw [qAn,qoG]
 refine qax (qjy ppm ev m p) (fun b hb=>qao (fun _=>qah trivial) (fun hn=>?_))
 obtain ⟨h1,h2,h3⟩:=hb (by simpa using hn)
 exact qax (qki h1 h2 h3) (fun _ _=>qah trivial)
theorem qgX (p ppm ev m c bal:Int):Ok (qpU p ppm ev m c bal) fun _=>True:=by
 rw [qAu,qoN]
 refine qax (qjy ppm ev m p) (fun b hb=>?_)
 simp only [qjF]
 refine qam rfl (qam rfl (qam rfl (qam rfl (qao (fun _=>qah trivial) (fun hn=>?_)))))
 simp only [Bool.or_eq_false_iff,Bool.not_eq_false',decide_eq_false_iff_not] at hn
 obtain ⟨h1,h2,h3⟩:=hb hn.1.1.1.1
 have c0:0 <= c:=by omega
 have c1:c <= 120:=by omega
 refine qax (qkE h1 h2 h3 c0 c1 _ bal) ?_
 rintro ⟨y,y'⟩ rfl
 refine qao (fun _=>qah trivial) (fun _=>?_)
 have hl:Lo (qvb (0,1000000000000,ppm,ev,m,p,c,bal)) 1 fun _=>True:=by
  rw [qqG]
  refine qdP (fun v:qdH=>∃ lo hi:Int,(0 <= lo /\ lo <= hi /\ hi <= 1000000000000) /\ v = (lo,hi,ppm,ev,m,p,c,bal)) (fun v=>(v.2.1 - v.1).toNat) (fun k _=>k < 1 /\ True) ?_ _ ⟨0,1000000000000,by omega,rfl⟩
  rintro _ ⟨lo,hi,hq,rfl⟩
  simp only [qoa,qrI]
  refine qao (fun hlt=>?_) (fun _=>qaQ ⟨by decide,trivial⟩)
  have hlt:=of_decide_eq_true hlt
  have e1:IntKind.i64.wrap (lo + hi) = lo + hi:=Go.Eng.wrap64 (by omega) (by omega)
  have e2:IntKind.i64.wrap ((lo + hi).tdiv 2) = (lo + hi) / 2:=by rw [Int.tdiv_eq_ediv_of_nonneg (by omega)]; exact Go.Eng.wrap64 (by omega) (by omega)
  have e3:IntKind.i64.wrap ((lo + hi) / 2 + 1) = (lo + hi) / 2 + 1:=Go.Eng.wrap64 (by omega) (by omega)
  rw [e1,e2,e3]
  refine qax (qkE h1 h2 h3 c0 c1 _ bal) ?_
  rintro ⟨z,z'⟩ rfl
  refine qao (fun _=>qbO ⟨⟨lo,(lo + hi) / 2,by omega,rfl⟩,?_⟩) (fun _=>qbO ⟨⟨(lo + hi) / 2 + 1,hi,by omega,rfl⟩,?_⟩)
  ·show ((lo + hi) / 2 - lo).toNat < (hi - lo).toNat
   omega
  ·show (hi - ((lo + hi) / 2 + 1)).toNat < (hi - lo).toNat
   omega
 exact qvE hl (fun _ _=>qah trivial)
end Go.Proofs.H35
namespace Go.Proofs.H35
open Go Go.Eng Go.Tk
set_option maxRecDepth 20000
theorem qfv (x0 x1 x2 x3 x4 x5 x6 x7 x8 x9:Int) (x10 x11:Bs) (x12 x13 x14 x15:Int) (h:1 <= x5):Ok (ql5 x0 x1 x2 x3 x4 x5 x6 x7 x8 x9 x10 x11 x12 x13 x14 x15) fun _=>True:=by
 rw [qAi,qoB]
 have e:decide (x5 ≠ 0) = true:=decide_eq_true (by omega)
 refine qao (fun _=>qaE e (qaE e (qao (fun _=>qah trivial) (fun _=>qah trivial)))) (fun _=>qao (fun _=>qah trivial) (fun _=>qah trivial))
theorem qGD {w:List AV} {n:Nat} (h:n <= w.length):qcF [(0,Blk.arr 4 w false)] qbl (AV.tup [AV.own 0 0 (some n),AV.int IntKind.i64 0]) = true:=by
 have e:qcF [(0,Blk.arr 4 w false)] qbl (AV.tup [AV.own 0 0 (some n),AV.int IntKind.i64 0]) = (decide (0 + n <= w.length) && true):=by kernel_rfl
 rw [e,decide_eq_true (by omega)]; rfl
section
variable (l:List Int) (pay t0 t1 t2 t3 t4 t5 t6 t7 t8 t9:Int) (c u:Bs)
abbrev bI (left:Int) (n:Nat) (B:List AV):qcl:=.inl (EIn l,pay,left,n,EIn l,((EIn l).length:Int),(n:Int),t0,t1,t2,t3,t4,t5,t6,t7,t8,t9,c,u,B)
noncomputable def bE (left:Int):Int:=(gv (qds left t2 t4 t7)).snd
def BQ (k:Nat) (w:qcl):Prop:=
 (k = 0 /\ ∃ left n B,w = bI l pay t0 t1 t2 t3 t4 t5 t6 t7 t8 t9 c u left n B /\ bE t2 t4 t7 left ≠ 0) \/
 (k = 1 /\ ∃ left B,w = bI l pay t0 t1 t2 t3 t4 t5 t6 t7 t8 t9 c u left l.length B /\ l.length <= B.length /\ ∃ D:List Du,B.take l.length = EDu D /\ D.length = l.length)
theorem qzn (h5:1 <= t5) (hl:l.length <= 120) (left:Int) (B:List AV) (hB:B.length = l.length) :
  Ok (qc9 (bI l pay t0 t1 t2 t3 t4 t5 t6 t7 t8 t9 c u left 0 B)) fun p=>BQ l pay t0 t1 t2 t3 t4 t5 t6 t7 t8 t9 c u p.1 p.2:=by
 rw [qqM]
 refine qdP (fun v=>∃ left n B,(n <= l.length /\ B.length = l.length /\ ∃ D:List Du,B.take n = EDu D /\ D.length = n) /\ v = bI l pay t0 t1 t2 t3 t4 t5 t6 t7 t8 t9 c u left n B)
  (Sum.elim (fun v=>l.length - v.2.2.2.1) (fun _=>0)) _ ?_ _ ⟨left,0,B,⟨Nat.zero_le _,hB,[],rfl,rfl⟩,rfl⟩
 rintro _ ⟨left,n,B,⟨hn,hB,D,hD,hDn⟩,rfl⟩
 show Ok (qkW (EIn l) pay left n (EIn l) ((EIn l).length:Int) (n:Int) t0 t1 t2 t3 t4 t5 t6 t7 t8 t9 c u B).ev _
 unfold qkW
 by_cases hlt:n < l.length
 ·refine qaE (qlz hlt) (qaE (qxj hlt) ?_)
  obtain ⟨y0,e0,_⟩:=qgg left t2 t4 t7
  refine qam e0 ?_
  have hE:bE t2 t4 t7 left = y0.2:=by unfold bE; rw [e0]; rfl
  refine qao (fun h=>qaQ (.inl ⟨rfl,left,n,B,rfl,by rw [hE]; simpa using h⟩)) (fun _=>?_)
  have ew:IntKind.i64.wrap ((n:Int) + 1) = ((n + 1:Nat):Int):=qbH hlt (by omega)
  rw [ew]
  have hroom:(decide (0 + n + 1 <= B.length) && decide (4 = 4)) = true:=by rw [decide_eq_true (show 0 + n + 1 <= B.length by omega)]; rfl
  have next:∀ (lf pr:Int),Nx (fun w=>(∃ left n B,(n <= l.length /\ B.length = l.length /\ ∃ D:List Du,B.take n = EDu D /\ D.length = n) /\ w = bI l pay t0 t1 t2 t3 t4 t5 t6 t7 t8 t9 c u left n B) /\ Sum.elim (fun v=>l.length - v.2.2.2.1) (fun _=>0) w < Sum.elim (fun v=>l.length - v.2.2.2.1) (fun _=>0) (bI l pay t0 t1 t2 t3 t4 t5 t6 t7 t8 t9 c u left n B))
    (fun k=>BQ l pay t0 t1 t2 t3 t4 t5 t6 t7 t8 t9 c u k (bI l pay t0 t1 t2 t3 t4 t5 t6 t7 t8 t9 c u left n B))
    (.next (.inl (EIn l,pay,lf,n + 1,EIn l,((EIn l).length:Int),((n + 1:Nat):Int),t0,t1,t2,t3,t4,t5,t6,t7,t8,t9,c,u,
     List.take (0 + n) B ++ [AV.agg [AV.int IntKind.i64 ((n + 1:Nat):Int),AV.int IntKind.i64 (intOf (cellAt (EIn l) (n:Int) 0)),AV.int IntKind.i64 pr,AV.int IntKind.i64 y0.1]] ++ List.drop (0 + n + 1) B))):=by
   intro lf pr
   rw [Nat.zero_add]
   have hlen:(List.take n B ++ [AV.agg [AV.int IntKind.i64 ((n + 1:Nat):Int),AV.int IntKind.i64 (intOf (cellAt (EIn l) (n:Int) 0)),AV.int IntKind.i64 pr,AV.int IntKind.i64 y0.1]]).length = n + 1:=by
    rw [List.length_append,List.length_take]; simp; omega
   refine ⟨⟨lf,n + 1,_,⟨by omega,?_,D ++ [⟨((n + 1:Nat):Int),intOf (cellAt (EIn l) (n:Int) 0),pr,y0.1⟩],?_,by simp [hDn]⟩,rfl⟩,?_⟩
   ·rw [List.length_append,hlen,List.length_drop]; omega
   ·rw [List.take_append_of_le_length (Nat.le_of_eq hlen.symm),List.take_of_length_le (Nat.le_of_eq hlen),hD,EDu,EDu,List.map_append]; rfl
   ·show l.length - (n + 1) < l.length - n
    omega
  refine qao (fun _=>?_) (fun _=>?_)
  ·refine qax (qfv t0 t1 t2 t3 t4 t5 t6 t7 t8 t9 c u _ _ _ _ h5) (fun y1 _=>qaE hroom ⟨_,rfl,next _ _⟩)
  ·exact qaE hroom ⟨_,rfl,next _ _⟩
 ·obtain rfl:n = l.length:=by omega
  refine qbN (qpj hlt) (qaQ (.inr ⟨rfl,left,B,rfl,by omega,D,hD,hDn⟩))
end
theorem qN8 {α τ:Type} [Inhabited τ] {o:Option (Nat × τ)} {f0 f1 f2 f3:τ -> DT α} {e:DT α} {Q:Nat -> τ -> Prop} {P:α -> Prop} (h:Ok o fun p=>Q p.1 p.2) (hk:∀ k w,Q k w -> k < 2) (h0:∀ w,Q 0 w -> Ok (f0 w).ev P) (h1:∀ w,Q 1 w -> Ok (f1 w).ev P) :
  Ok (DT.bi (pj 0 o) f0 (DT.bi (pj 1 o) f1 (DT.bi (pj 2 o) f2 (DT.bi (pj 3 o) f3 e)))).ev P:=
 qbs (Q:=Q) h h0 fun h=>qbs (Q:=fun k w=>k ≠ 0 /\ Q k w) h (fun w hw=>h1 w hw.2) fun h=>qfp h fun p hp=>by
  have:=hk _ _ hp.2.2
  omega
theorem qia (x0 x1 x2 x3 x4 x5 x6 x7 x8 x9:Int) (x10 x11:Bs) {s:Bs} {ws hs:List Int} (h0:s.length <= 9223372036854775807) (hw:ws.length <= 9223372036854775807) (hh:hs.length <= 9223372036854775807) :
    Ok (qp5 x0 x1 x2 x3 x4 x5 x6 x7 x8 x9 x10 x11 s (EIn ws) (EIn hs)) fun r=>r.2 = 0 -> qiN x0 x1 x2 x3 x4 x5 x6 x7 x8 x9 /\ ∃ D:List Du,r.1 = EDu D /\ 1 <= D.length /\ D.length <= 120:=by
  rw [qAH,qo0]
  refine qax (qiL x0 x1 x2 x3 x4 x5 x6 x7 x8 x9 x10 x11 h0 hw hh) ?_
  rintro ⟨dl,e⟩ he
  refine qao (fun h=>qah (fun h0=>absurd h0 (by simpa using h))) (fun h=>?_)
  obtain ⟨ht,l,rfl,hl1,hl2⟩:=he (by simpa using h)
  have h5:1 <= x5:=by unfold qiN at ht; omega
  have hcond:(decide (0 <= ((EIn l).length:Int)) && room ((EIn l).length:Int).toNat 32 && decide (((EIn l).length:Int) <= 4611686018427387904)) = true:=by
    rw [List.length_map,decide_eq_true (show (0:Int) <= (l.length:Int) by omega),decide_eq_true (show (l.length:Int) <= 4611686018427387904 by omega)]
    have h32:l.length * 32 <= lim:=by unfold lim; omega
    have e:room ((l.length:Int).toNat) 32 = true:=decide_eq_true h32
    rw [e]; rfl
  have hB:(List.replicate ((EIn l).length:Int).toNat (AV.agg [AV.int IntKind.i64 0,AV.int IntKind.i64 0,AV.int IntKind.i64 0,AV.int IntKind.i64 0])).length = l.length:=by simp
  have fin:∀ (pay:Int) {f2 f3:qcl -> DT qtp} {e:DT qtp},Ok (DT.bi (pj 0 (qc9 (bI l pay x0 x1 x2 x3 x4 x5 x6 x7 x8 x9 x10 x11 x1 0 (List.replicate ((EIn l).length:Int).toNat (AV.agg [AV.int IntKind.i64 0,AV.int IntKind.i64 0,AV.int IntKind.i64 0,AV.int IntKind.i64 0])))))
      (fun y3=>.at (([],(gv (qds (sl y3).snd.snd.fst (sl y3).snd.snd.snd.snd.snd.snd.snd.snd.snd.fst (sl y3).snd.snd.snd.snd.snd.snd.snd.snd.snd.snd.snd.fst (sl y3).snd.snd.snd.snd.snd.snd.snd.snd.snd.snd.snd.snd.snd.snd.fst)).snd)))
      (DT.bi (pj 1 (qc9 (bI l pay x0 x1 x2 x3 x4 x5 x6 x7 x8 x9 x10 x11 x1 0 (List.replicate ((EIn l).length:Int).toNat (AV.agg [AV.int IntKind.i64 0,AV.int IntKind.i64 0,AV.int IntKind.i64 0,AV.int IntKind.i64 0])))))
        (fun y3=>.br (qcF [(0,Blk.arr 4 (sl y3).snd.snd.snd.snd.snd.snd.snd.snd.snd.snd.snd.snd.snd.snd.snd.snd.snd.snd.snd false)] qbl (AV.tup [AV.own 0 0 (some (sl y3).snd.snd.snd.fst),AV.int IntKind.i64 0]))
           (.at ((List.take (sl y3).snd.snd.snd.fst (sl y3).snd.snd.snd.snd.snd.snd.snd.snd.snd.snd.snd.snd.snd.snd.snd.snd.snd.snd.snd,0))) (.no))
        (DT.bi (pj 2 (qc9 (bI l pay x0 x1 x2 x3 x4 x5 x6 x7 x8 x9 x10 x11 x1 0 (List.replicate ((EIn l).length:Int).toNat (AV.agg [AV.int IntKind.i64 0,AV.int IntKind.i64 0,AV.int IntKind.i64 0,AV.int IntKind.i64 0]))))) f2
          (DT.bi (pj 3 (qc9 (bI l pay x0 x1 x2 x3 x4 x5 x6 x7 x8 x9 x10 x11 x1 0 (List.replicate ((EIn l).length:Int).toNat (AV.agg [AV.int IntKind.i64 0,AV.int IntKind.i64 0,AV.int IntKind.i64 0,AV.int IntKind.i64 0]))))) f3 e)))).ev
      fun r=>r.2 = 0 -> qiN x0 x1 x2 x3 x4 x5 x6 x7 x8 x9 /\ ∃ D:List Du,r.1 = EDu D /\ 1 <= D.length /\ D.length <= 120:=by
    intro pay f2 f3 e
    refine qN8 (qzn l pay x0 x1 x2 x3 x4 x5 x6 x7 x8 x9 x10 x11 h5 hl2 x1 _ hB) ?_ ?_ ?_
    · rintro k w (⟨h,_⟩ | ⟨h,_⟩) <;> omega
    · rintro w (⟨_,left,n,B,rfl,hE⟩ | ⟨h,_⟩)
      · exact qah fun h=>absurd h hE
      · omega
    · rintro w (⟨h,_⟩ | ⟨_,left,B,rfl,hBl,D,hD,hDn⟩)
      · omega
      · exact qaE (qGD hBl) (qah fun _=>⟨ht,D,hD,by omega,by omega⟩)
  refine qax (Q:=fun _=>True) (qbd (fun _=>qaJ trivial) (fun _=>qaJ trivial)) (fun _ _=>qao (fun _=>?_) (fun _=>qaE hcond (fin 0)))
  refine qax (qgX x1 x2 x4 x7 x5 x6) ?_
  rintro ⟨y,e⟩ _
  exact qao (fun h=>qah (fun h0=>absurd h0 (by simpa using h))) (fun _=>qaE hcond (fin y))
theorem qiI (x0 x1 x2 x3 x4 x5 x6 x7 x8 x9:Int) (x10 x11:Bs) {s:Bs} {ws hs:List Int} (h0:s.length <= 9223372036854775807) (hw:ws.length <= 9223372036854775807) (hh:hs.length <= 9223372036854775807) :
  Ok (qp9 7 1000 x0 x1 x2 x3 x4 x5 x6 x7 x8 x9 x10 x11 s (EIn ws) (EIn hs)) fun r=>(∃ e,e ≠ 0 /\ r = (0,0,0,0,0,0,0,0,0,0,0,0,0,0,0,0,0,0,0,0,0,[],[],[],[],e)) \/
   (qiN x0 x1 x2 x3 x4 x5 x6 x7 x8 x9 /\ ∃ D:List Du,(1 <= D.length /\ D.length <= 120) /\ r = (7,1000,1,0,0,0,0,x3,0,0,0,x0,x1,x2,x3,x4,x5,x6,x7,x8,x9,x10,x11,EDu D,[],0)):=by
 rw [qAQ,qo9]
 refine qam (b:=false) rfl (qbN rfl ?_)
 refine qax (qia x0 x1 x2 x3 x4 x5 x6 x7 x8 x9 x10 x11 h0 hw hh) ?_
 rintro ⟨dl,e⟩ he
 refine qao (fun h=>qah (.inl ⟨e,by simpa using h,rfl⟩)) (fun h=>?_)
 obtain ⟨ht,D,rfl,h1,h2⟩:=he (by simpa using h)
 exact qah (.inr ⟨ht,D,⟨h1,h2⟩,rfl⟩)
end Go.Proofs.H35
namespace Go.Proofs.H35
open Go Go.Eng Go.Tk
set_option maxRecDepth 20000
theorem q1E (d:Du):qhi [CS.int IntKind.i64,CS.int IntKind.i64,CS.int IntKind.i64,CS.int IntKind.i64] (qac d.av) = true:=rfl
theorem qE6 {D:List Du} {n:Nat} (h:n < D.length):qcO [CS.int IntKind.i64,CS.int IntKind.i64,CS.int IntKind.i64,CS.int IntKind.i64] (EDu D) (n:Int) = true:=qbV q1E h
theorem du0 {D:List Du} {n:Nat} (h:n < D.length):intOf (cellAt (EDu D) (n:Int) 0) = D[n].no:=by rw [qaI h]; rfl
theorem du1 {D:List Du} {n:Nat} (h:n < D.length):intOf (cellAt (EDu D) (n:Int) 1) = D[n].day:=by rw [qaI h]; rfl
theorem du2 {D:List Du} {n:Nat} (h:n < D.length):intOf (cellAt (EDu D) (n:Int) 2) = D[n].pr:=by rw [qaI h]; rfl
theorem du3 {D:List Du} {n:Nat} (h:n < D.length):intOf (cellAt (EDu D) (n:Int) 3) = D[n].it:=by rw [qaI h]; rfl
theorem qfj (n:Int):qcJ n = some (decide (n >= 0) && decide (n <= 1000000000000)):=by
 rw [qwx,qi9,qc2,ev_bi_some]; rfl
theorem qfk (n:Int):qgs n = some (decide (n >= 0) && decide (n <= 73048)):=by
 rw [qwQ,qjs,qc2,ev_bi_some]; rfl
theorem qhe (n:Int):qgr n = some (decide (n >= 0) && decide (n <= 1000000)):=by
 rw [qwL,qjn,qc2,ev_bi_some]; rfl
theorem qq2 (d:Du):qp2 d.no d.day d.pr d.it = some (!qci d):=by
 rw [qAE,qoX]
 simp only [qfj,qfk,sm_some,gv_some,qFm,qjF,ev_bi_some]
 show some _ = some _
 unfold qci
 congr 1
 simp only [ge_iff_le]
 cases decide (0 <= d.day) <;> cases decide (d.day <= 73048) <;> cases decide (0 <= d.pr) <;> cases decide (d.pr <= 1000000000000) <;> cases decide (0 <= d.it) <;> cases decide (d.it <= 1000000000000) <;> rfl
theorem qiS {D:List Du} {n:Nat} (h:n < D.length):duP (D.take (n + 1)) = duP (D.take n) + D[n].pr:=by
 rw [List.take_succ_eq_append_getElem h,qzL]; simp [duP]
theorem qiR {D:List Du} {n:Nat} (h:n < D.length):duI (D.take (n + 1)) = duI (D.take n) + D[n].it:=by
 rw [List.take_succ_eq_append_getElem h,qNu]; simp [duI]
theorem qiT:∀ {D:List Du},D.all qci = true -> (0 <= duP D /\ duP D <= D.length * 1000000000000) /\ 0 <= duI D /\ duI D <= D.length * 1000000000000
 | [],_=>by simp [duP,duI]
 | d :: D,h=>by
  rw [List.all_cons,Bool.and_eq_true] at h
  have ih:=qiT h.2
  have h1:=h.1
  simp only [qci,Bool.and_eq_true,decide_eq_true_eq] at h1
  have e1:duP (d :: D) = d.pr + duP D:=by simp [duP]
  have e2:duI (d :: D) = d.it + duI D:=by simp [duI]
  rw [e1,e2,List.length_cons]
  refine ⟨⟨by omega,?_⟩,by omega,?_⟩
  ·have:((D.length + 1:Nat):Int) * 1000000000000 = D.length * 1000000000000 + 1000000000000:=by omega
   omega
  ·have:((D.length + 1:Nat):Int) * 1000000000000 = D.length * 1000000000000 + 1000000000000:=by omega
   omega
theorem qiO {D:List Du} (h:D.all qci = true) (n:Nat):(D.take n).all qci = true:=by
 rw [List.all_eq_true] at h ⊢
 exact fun d hd=>h d (List.mem_of_mem_take hd)
theorem qup {D:List Du} (h:D.all qci = true) (n:Nat):(D.drop n).all qci = true:=by
 rw [List.all_eq_true] at h ⊢
 exact fun d hd=>h d (List.mem_of_mem_drop hd)
theorem qbh {D:List Du} (h:D.all qci = true) (hl:D.length <= 1000) (n:Nat):(0 <= duP (D.take n) /\ duP (D.take n) <= 1000000000000000) /\ 0 <= duI (D.take n) /\ duI (D.take n) <= 1000000000000000:=by
 have:=qiT (qiO h n)
 have hl':(D.take n).length <= 1000:=by rw [List.length_take]; omega
 omega
theorem qcX {D:List Du} (h:D.all qci = true) (hl:D.length <= 1000):qfd (EDu D) = some (duP D,duI D):=by
 rw [qwM,qjo]
 have e:qnv (0,0,EDu D,((EDu D).length:Int),0) = some (0,(duP D,duI D,EDu D,((EDu D).length:Int),(D.length:Int))):=by
  rw [qmu]
  have:=qct (st:=fun v=>(qi3 v).ev) (fun n:Nat=>(duP (D.take n),duI (D.take n),EDu D,((EDu D).length:Int),(n:Int))) D.length 0 0 (Nat.zero_le _) (fun n _ hn=>?_) ?_
  ·simpa [duP,duI] using this
  ·show (qec (duP (D.take n)) (duI (D.take n)) (EDu D) ((EDu D).length:Int) (n:Int)).ev = _
   unfold qec
   have hb:=qbh h hl (n + 1)
   rw [qiS hn,qiR hn] at hb
   rw [ev_br,qlz hn,cond_true,ev_br,qE6 hn,cond_true,du2 hn,du3 hn,qbH hn (by omega),Go.Eng.wrap64 (by omega) (by omega),Go.Eng.wrap64 (by omega) (by omega),qiS hn,qiR hn]
   rfl
  ·show (qec _ _ _ _ _).ev = _
   unfold qec
   rw [ev_br,qpj (Nat.lt_irrefl _)]
   rfl
 rw [e]
 rfl
theorem qpz {D:List Du} (hl:D.length <= 1000):qAR (EDu D) = some (!D.all qci):=by
 have hloop:Lo' (qqr (EDu D,((EDu D).length:Int),0)) 2 (fun k w=>∃ m:Nat,m <= D.length /\ w = (EDu D,((EDu D).length:Int),(m:Int)) /\ ((k = 0 -> D.all qci = false) /\ (k = 1 -> D.all qci = true))):=by
  rw [qqs]
  refine qkz (fun n:Nat=>(EDu D,((EDu D).length:Int),(n:Int))) D.length 2 (fun n=>(D.take n).all qci = true) (fun k _=>(k = 0 -> D.all qci = false) /\ (k = 1 -> D.all qci = true)) (fun n hn hJ=>?_) 0 (Nat.zero_le _) rfl
  simp only [qn3,qrC]
  by_cases hlt:n < D.length
  ·refine qaE (qlz hlt) (qaE (qE6 hlt) ?_)
   rw [du0 hlt,du1 hlt,du2 hlt,du3 hlt]
   refine qam (qq2 D[n]) (qao (fun hb=>qaQ ⟨by decide,fun _=>?_,fun h=>by omega⟩) (fun hb=>qbO ⟨⟨hlt,by rw [qbH hlt (by omega)]⟩,?_⟩))
   ·rw [List.all_eq_false]
    exact ⟨D[n],List.getElem_mem hlt,by simpa using hb⟩
   ·rw [List.take_succ_eq_append_getElem hlt,List.all_append,hJ]
    simpa using hb
  ·obtain rfl:n = D.length:=by omega
   refine qbN (qpj hlt) (qaQ ⟨by decide,fun h=>by omega,fun _=>by rwa [List.take_length] at hJ⟩)
 obtain ⟨⟨k,w⟩,hk,hk2,m,hm,rfl,h0,h1⟩:=hloop
 rw [qFF,qv4,qz6,qop,hk]
 have hk3:k = 0 \/ k = 1:=by simp only at hk2; omega
 rcases hk3 with rfl | rfl
 ·rw [h0 rfl]
  show some (decide ((m:Int) >= 0)) = _
  rw [decide_eq_true (by omega)]; rfl
 ·rw [h1 rfl]; rfl
def pvD (D:List Du):Nat -> Option Int
 | 0=>none
 | n + 1=>(D[n]?).map (·.day)
theorem qsW {D:List Du} (hl:D.length <= 1000):qqf (EDu D) = some (qkC 1 none D):=by
 have hloop:Lo' (qqV (EDu D,EDu D,((EDu D).length:Int),0)) 2 (fun k w=>∃ m:Nat,m <= D.length /\ w = (EDu D,EDu D,((EDu D).length:Int),(m:Int)) /\ ((k = 0 -> qkC 1 none D = false) /\ (k = 1 -> qkC 1 none D = true))):=by
  rw [qqW]
  refine qkz (fun n:Nat=>(EDu D,EDu D,((EDu D).length:Int),(n:Int))) D.length 2 (fun n=>qkC 1 none D = qkC ((n:Int) + 1) (pvD D n) (D.drop n)) (fun k _=>(k = 0 -> qkC 1 none D = false) /\ (k = 1 -> qkC 1 none D = true)) (fun n hn hJ=>?_) 0 (Nat.zero_le _) rfl
  simp only [qog,qrO]
  by_cases hlt:n < D.length
  ·refine qaE (qlz hlt) (qaE (qE6 hlt) ?_)
   rw [du0 hlt,qbH hlt (by omega)]
   rw [drop_at hlt] at hJ
   have hs:qkC 1 none D = (D[n].no == (n:Int) + 1 && ((match pvD D n with | some x=>decide (x <= D[n].day) | none=>true) && qkC ((n:Int) + 1 + 1) (some D[n].day) (D.drop (n + 1)))):=hJ
   have hp:pvD D (n + 1) = some D[n].day:=by simp [pvD,hlt]
   have e2:((n:Int) + 1 + 1) = (((n + 1:Nat):Int) + 1):=by omega
   refine qao (fun hb=>qaQ ⟨by decide,fun _=>?_,fun h=>by omega⟩) (fun hb=>?_)
   ·rw [hs]
    have:(D[n].no == (n:Int) + 1) = false:=by simpa using hb
    rw [this]; rfl
   have hno:(D[n].no == (n:Int) + 1) = true:=by simpa using hb
   rw [hno,Bool.true_and] at hs
   refine qao (fun h0=>?_) (fun h0=>?_)
   ·have h0':0 < n:=by have:=of_decide_eq_true h0; omega
    obtain ⟨m,rfl⟩:∃ m,n = m + 1:=⟨n - 1,by omega⟩
    have hm:m < D.length:=by omega
    have ep:IntKind.wrap .i64 (((m + 1:Nat):Int) - 1) = (m:Int):=by rw [Go.Eng.wrap64 (by omega) (by omega)]; omega
    rw [ep,du1 hlt,du1 hm]
    have hpv:pvD D (m + 1) = some D[m].day:=by simp [pvD,hm]
    rw [hpv] at hs
    refine qaE (qE6 hm) (qao (fun hb=>qaQ ⟨by decide,fun _=>?_,fun h=>by omega⟩) (fun hb=>qbO ⟨⟨hlt,rfl⟩,?_⟩))
    ·have:=of_decide_eq_true hb
     rw [hs]
     simp only
     rw [decide_eq_false (by omega)]; rfl
    ·have:=of_decide_eq_false hb
     simp only at hs
     rw [decide_eq_true (by omega),Bool.true_and] at hs
     rw [hs,hp,e2]
   ·obtain rfl:n = 0:=by have:=of_decide_eq_false h0; omega
    refine qbO ⟨⟨hlt,rfl⟩,?_⟩
    rw [hs,hp,e2]; rfl
  ·obtain rfl:n = D.length:=by omega
   refine qbN (qpj hlt) (qaQ ⟨by decide,fun h=>by omega,fun _=>?_⟩)
   rw [hJ,qFy hlt]; rfl
 obtain ⟨⟨k,w⟩,hk,hk2,m,hm,rfl,h0,h1⟩:=hloop
 rw [qAV,qpd,hk]
 have hk3:k = 0 \/ k = 1:=by simp only at hk2; omega
 rcases hk3 with rfl | rfl
 ·rw [h0 rfl]; rfl
 ·rw [h1 rfl]; rfl
end Go.Proofs.H35
namespace Go.Proofs.H35
open Go Go.Eng Go.Tk
set_option maxRecDepth 20000
theorem qiv (st pp pi:Int) (t0 t1 t2 t3 t4 t5 t6 t7 t8 t9:Int) (c u:Bs) (D:List Du):qks (0,0,0,0,0,7,1000,st,pp,pi,0,0,t3,0,0,0,t0,t1,t2,t3,t4,t5,t6,t7,t8,t9,c,u,EDu D,[]) = some (1,(0,0,0,0,4,7,1000,st,pp,pi,0,0,t3,0,0,0,t0,t1,t2,t3,t4,t5,t6,t7,t8,t9,c,u,EDu D,[])):=by
 rw [qqU]
 refine qct (st:=fun v=>(qk1 v).ev) (fun n:Nat=>(0,0,0,0,(n:Int),7,1000,st,pp,pi,0,0,t3,0,0,0,t0,t1,t2,t3,t4,t5,t6,t7,t8,t9,c,u,EDu D,[])) 4 1 0 (Nat.zero_le _) (fun n _ hn=>?_) rfl
 have h4:n = 0 \/ n = 1 \/ n = 2 \/ n = 3:=by omega
 rcases h4 with rfl | rfl | rfl | rfl
 all_goals
  simp only [qk1,qrN,qfj]
  rfl
theorem qYP {α β:Type} [Inhabited β] {o:Option β} {f:β -> DT α} {e:DT α} {P:α -> Prop} (h:o = none) (k:Ok e.ev P):Ok (DT.bi o f e).ev P:=by
 subst h; exact k
def qGe (D:List Du) (pp pi:Int):Bool:=decide (0 <= pp) && (decide (0 <= pi) && (decide (1 <= D.length) && (decide (D.length <= 240) && D.all qci)))
section
variable {st pp pi t0 t1 t2 t3 t4 t5 t6 t7 t8 t9:Int} {c u:Bs} {D:List Du} (ht:qiN t0 t1 t2 t3 t4 t5 t6 t7 t8 t9) (hst:st = 1 \/ st = 2) (hl:D.length <= 1000)
include ht hst hl
theorem qxi:Ok (qqe 7 1000 st pp pi 0 0 t3 0 0 0 t0 t1 t2 t3 t4 t5 t6 t7 t8 t9 c u (EDu D) []) fun b=>b = qGe D pp pi:=by
 have h3:0 <= t3 /\ t3 <= 73048:=by unfold qiN at ht; omega
 have h8:(0 <= t8 /\ t8 <= 1000000) /\ 0 <= t9 /\ t9 <= 1000000:=ht.1
 rw [qAU,qpc]
 refine qam (b:=false) rfl (qam (b:=decide (st < 1)) rfl (qam (b:=false) (by rw [decide_eq_false (by omega),decide_eq_false (by omega)]; rfl) (qbN rfl ?_)))
 by_cases hp:0 <= pp /\ 0 <= pi
 ·refine qam (b:=false) (by rw [decide_eq_false (by omega),decide_eq_false (by omega)]; rfl) (qam (b:=false) rfl (qam (b:=false) ?_ (qbN rfl ?_)))
  ·rw [qfk,decide_eq_true (show t3 >= 0 by omega),decide_eq_true (show t3 <= 73048 by omega)]; rfl
  refine qam (b:=true) (by rw [qhe,decide_eq_true (show t8 >= 0 by omega),decide_eq_true (show t8 <= 1000000 by omega)]; rfl) (qam (b:=false) ?_ (qbN rfl ?_))
  ·rw [qhe,decide_eq_true (show t9 >= 0 by omega),decide_eq_true (show t9 <= 1000000 by omega)]; rfl
  by_cases hd:1 <= D.length /\ D.length <= 240
  ·refine qam (b:=false) (by rw [List.length_map,decide_eq_false (show ¬ (D.length:Int) < 1 by omega),decide_eq_false (show ¬ (D.length:Int) > 240 by omega)]; rfl) (qam (b:=false) rfl (qbN rfl ?_))
   have e0:pj 0 (qks (0,0,0,0,0,7,1000,st,pp,pi,0,0,t3,0,0,0,t0,t1,t2,t3,t4,t5,t6,t7,t8,t9,c,u,EDu D,[])) = none:=by rw [qiv]; rfl
   have e1:pj 1 (qks (0,0,0,0,0,7,1000,st,pp,pi,0,0,t3,0,0,0,t0,t1,t2,t3,t4,t5,t6,t7,t8,t9,c,u,EDu D,[])) = some (0,0,0,0,4,7,1000,st,pp,pi,0,0,t3,0,0,0,t0,t1,t2,t3,t4,t5,t6,t7,t8,t9,c,u,EDu D,[]):=by rw [qiv]; rfl
   refine qYP e0 (qam e1 (qam (qpz hl) (qah ?_)))
   unfold qGe
   rw [decide_eq_true hp.1,decide_eq_true hp.2,decide_eq_true hd.1,decide_eq_true hd.2,Bool.not_not]; rfl
  ·have hd':(decide (1 <= D.length) && (decide (D.length <= 240) && D.all qci)) = false:=by
    by_cases h1:1 <= D.length
    ·rw [decide_eq_false (show ¬ D.length <= 240 by omega),Bool.false_and,Bool.and_false]
    ·rw [decide_eq_false h1,Bool.false_and]
   refine qam (b:=true) ?_ (qam (b:=true) rfl (qaE rfl (qah ?_)))
   ·rw [List.length_map]
    by_cases h1:(D.length:Int) < 1
    ·rw [decide_eq_true h1]; rfl
    ·rw [decide_eq_false h1,decide_eq_true (show (D.length:Int) > 240 by omega)]; rfl
   ·unfold qGe; rw [hd',Bool.and_false,Bool.and_false]
 ·refine qam (b:=true) ?_ (qam (b:=true) rfl (qam (b:=true) rfl (qaE rfl (qah ?_))))
  ·by_cases h1:pp < 0
   ·rw [decide_eq_true h1]; rfl
   ·rw [decide_eq_false h1,decide_eq_true (show pi < 0 by omega)]; rfl
  ·unfold qGe
   by_cases h1:0 <= pp
   ·rw [decide_eq_false (show ¬ 0 <= pi by omega),Bool.false_and,Bool.and_false]
   ·rw [decide_eq_false h1,Bool.false_and]
omit ht hst in
theorem qvj (hD:D.all qci = true):qfc 7 1000 st pp pi 0 0 t3 0 0 0 t0 t1 t2 t3 t4 t5 t6 t7 t8 t9 c u (EDu D) [] = some (qbM D ⟨st,pp,pi⟩):=by
 rw [qwK,qjm,qcX hD hl,ev_bi_some]
 simp only [qjF]
 rw [ev_bi_some,ev_bi_some,ev_bi_some]
 show some (((pp != duP D || pi != duI D) || false) || false) = _
 rw [Bool.or_false,Bool.or_false]; rfl
omit ht hst hl in
theorem qfD {P:Int}:qpi D P ⟨st,pp,pi⟩ = true ↔ qGe D pp pi = true /\ qkC 1 none D = true /\ (pp <= duP D /\ pi <= duI D) /\ duP D = P /\ (bif st == 1 then qbM D ⟨st,pp,pi⟩ else bif st == 2 then !qbM D ⟨st,pp,pi⟩ else true) = true:=by
 unfold qpi qGe
 simp only [Bool.and_eq_true,decide_eq_true_eq,beq_iff_eq]
 constructor
 ·rintro ⟨a1,a2,a3,a4,a5,a6,a7,a8,a9,a10⟩
  exact ⟨⟨a1,a2,a3,a4,a5⟩,a6,⟨a7,a8⟩,a9,a10⟩
 ·rintro ⟨⟨a1,a2,a3,a4,a5⟩,a6,⟨a7,a8⟩,a9,a10⟩
  exact ⟨a1,a2,a3,a4,a5,a6,a7,a8,a9,a10⟩
theorem quw:Ok (qjT 7 1000 st pp pi 0 0 t3 0 0 0 t0 t1 t2 t3 t4 t5 t6 t7 t8 t9 c u (EDu D) []) fun e=>(e = 0 ↔ qpi D t1 ⟨st,pp,pi⟩ = true):=by
 rw [qwD,qjf]
 refine qax (qxi (pp:=pp) (pi:=pi) (c:=c) (u:=u) ht hst hl) ?_
 rintro _ rfl
 refine qao (fun h=>qah ?_) (fun h=>?_)
 ·rw [qfD]
  have:qGe D pp pi = false:=by simpa using h
  rw [this]; simp
 have hn:qGe D pp pi = true:=by simpa using h
 have hD:D.all qci = true:=by
  have:=hn
  unfold qGe at this
  simp only [Bool.and_eq_true] at this
  exact this.2.2.2.2
 refine qam (qsW hl) (qao (fun h=>qah ?_) (fun h=>?_))
 ·rw [qfD]
  have:qkC 1 none D = false:=by simpa using h
  rw [this]; simp
 have ho:qkC 1 none D = true:=by simpa using h
 refine qam (qcX hD hl) ?_
 simp only [qjF]
 refine qam rfl (qam rfl (qao (fun h=>qah ?_) (fun h=>?_)))
 ·rw [qfD]
  simp only [Bool.or_eq_true,decide_eq_true_eq] at h
  constructor
  ·intro h; exact absurd (show (25:Int) = 0 from h) (by decide)
  ·rintro ⟨_,_,h2,_⟩; omega
 have hle:pp <= duP D /\ pi <= duI D:=by
  simp only [Bool.or_eq_false_iff,decide_eq_false_iff_not] at h
  omega
 refine qam (b:=(duP D != t1)) rfl (qao (fun h=>qah ?_) (fun h=>?_))
 ·rw [qfD]
  have:¬ duP D = t1:=by simpa using h
  constructor
  ·intro h; exact absurd (show (25:Int) = 0 from h) (by decide)
  ·rintro ⟨_,_,_,h2,_⟩; exact absurd h2 this
 have hP:duP D = t1:=by simpa using h
 have hlf:=qvj (st:=st) (pp:=pp) (pi:=pi) (t0:=t0) (t1:=t1) (t2:=t2) (t3:=t3) (t4:=t4) (t5:=t5) (t6:=t6) (t7:=t7) (t8:=t8) (t9:=t9) (c:=c) (u:=u) hl hD
 have key:qpi D t1 ⟨st,pp,pi⟩ = (bif st == 1 then qbM D ⟨st,pp,pi⟩ else bif st == 2 then !qbM D ⟨st,pp,pi⟩ else true):=by
  cases hq:(bif st == 1 then qbM D ⟨st,pp,pi⟩ else bif st == 2 then !qbM D ⟨st,pp,pi⟩ else true) with
  | true=>exact qfD.2 ⟨hn,ho,hle,hP,hq⟩
  | false=>
   cases hc:qpi D t1 ⟨st,pp,pi⟩ with
   | false=>rfl
   | true=>have:=(qfD.1 hc).2.2.2.2; rw [hq] at this; cases this
 rw [key,hlf]
 rcases hst with rfl | rfl
 ·refine qam (b:=false) rfl (qam (b:=!qbM D ⟨1,pp,pi⟩) rfl (qao (fun h=>qah ?_) (fun h=>qam (b:=false) rfl (qbN rfl (qah ?_)))))
  ·have:qbM D ⟨1,pp,pi⟩ = false:=by simpa using h
   show ((25:Int) = 0 ↔ qbM D ⟨1,pp,pi⟩ = true)
   rw [this]; simp
  ·have:qbM D ⟨1,pp,pi⟩ = true:=by simpa using h
   show ((0:Int) = 0 ↔ qbM D ⟨1,pp,pi⟩ = true)
   rw [this]; simp
 ·refine qam (b:=qbM D ⟨2,pp,pi⟩) rfl (qam (b:=qbM D ⟨2,pp,pi⟩) (by cases qbM D ⟨2,pp,pi⟩ <;> rfl) (qao (fun h=>qah ?_) (fun h=>qam (b:=false) rfl (qbN rfl (qah ?_)))))
  ·show ((25:Int) = 0 ↔ (!qbM D ⟨2,pp,pi⟩) = true)
   rw [h]; simp
  ·show ((0:Int) = 0 ↔ (!qbM D ⟨2,pp,pi⟩) = true)
   rw [h]; simp
omit ht hst in
theorem qcf (hD:D.all qci = true) (h0:0 <= pp) (h1:pp <= duP D):qis 7 1000 st pp pi 0 0 t3 0 0 0 t0 t1 t2 t3 t4 t5 t6 t7 t8 t9 c u (EDu D) [] = some (duP D - pp):=by
 rw [qAr,qoK,qcX hD hl,ev_bi_some,ev_at]
 have:=(qiT hD).1
 rw [Go.Eng.wrap64 (by omega) (by show duP D - pp <= _; omega)]
end
end Go.Proofs.H35
