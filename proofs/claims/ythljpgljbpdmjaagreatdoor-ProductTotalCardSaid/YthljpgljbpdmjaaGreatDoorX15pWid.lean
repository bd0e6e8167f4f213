/- Words of 128 bits and rounding: what the printed functions of the program come to. -/
import Derived.Test.YthljpgljbpdmjaaGreatDoorD15p_1
import Derived.Test.YthljpgljbpdmjaaGreatDoorD15p_2
import Derived.Test.YthljpgljbpdmjaaGreatDoorD15p_3
import Derived.Test.YthljpgljbpdmjaaGreatDoorD15p_4
import Derived.Test.YthljpgljbpdmjaaGreatDoorD15p_5
import Derived.Test.YthljpgljbpdmjaaGreatDoorD15p_6
import Derived.Test.YthljpgljbpdmjaaGreatDoorD15p_7
import Derived.Test.YthljpgljbpdmjaaGreatDoorD15p_8
import Derived.Test.YthljpgljbpdmjaaGreatDoorD15p_9
import Derived.Test.YthljpgljbpdmjaaGreatDoorD15p_10
import Derived.Test.YthljpgljbpdmjaaGreatDoorD15p_11
import Derived.Test.YthljpgljbpdmjaaGreatDoorWdB
set_option linter.unusedVariables false
set_option linter.unusedSimpArgs false
set_option linter.unnecessarySimpa false
namespace Go.Proofs.H15p
open Go Go.Eng Go.Tk
set_option maxRecDepth 20000
abbrev i64 (n:Int):Prop:=-9223372036854775808 <= n /\ n < 9223372036854775808
theorem q3b (n:Int):n.fdiv (2 ^ 63) = n / 9223372036854775808:=by
 rw [Int.fdiv_eq_ediv_of_nonneg _ (by decide)]; rfl
theorem qbh {n:Int} (h:i64 n):qcn n = some (wid n):=by
 rw [qEp,qm2]
 simp only [ev_at,q3b,w64]
 unfold wid
 rw [show n / 9223372036854775808 = n / 18446744073709551616 by omega]
theorem qeA {x:Int} (h0:0 <= x) (h1:x < 18446744073709551616):qeU x = true:=by
 unfold qeU; rw [decide_eq_true h0,decide_eq_true h1]; rfl
theorem nov {c d:Bool} (h:c = true -> d = false):br c (some d) (some false) = some false:=by
 cases c
 ·rfl
 ·rw [h rfl]; rfl
theorem qyJ {p q:Prop} [Decidable p] [Decidable q] (h:p ↔ q):(decide p == decide q) = true:=by simp [h]
theorem qZs {p q:Prop} [Decidable p] [Decidable q] (h:(decide p == decide q) = true):p ↔ q:=by simpa using h
theorem qom {a b:Int} (ha:inW a) (hb:inW b) (hc:inW (a + b)):qjR (wid a).1 (wid a).2 (wid b).1 (wid b).2 = some ((wid (a + b)).1,(wid (a + b)).2,0):=by
 rw [qEa,qmN]
 simp only [inW] at ha hb hc
 have e1:qeU (wid a).2 = true:=qeA (by simp only [wid]; omega) (by simp only [wid]; omega)
 have e2:qeU (wid b).2 = true:=qeA (by simp only [wid]; omega) (by simp only [wid]; omega)
 have e3:IntKind.i64.wrap (IntKind.i64.wrap ((wid a).1 + (wid b).1) + IntKind.i64.wrap (((wid a).2 + (wid b).2 + 0) / 18446744073709551616)) = (wid (a + b)).1:=by simp only [qjr,wid]; omega
 have e4:((wid a).2 + (wid b).2 + 0) % 18446744073709551616 = (wid (a + b)).2:=by simp only [wid]; omega
 rw [e3,e4]
 simp only [ev_br,e1,e2,Bool.true_and,decide_true,cond_true]
 rw [show decide (0 <= 1) = true from rfl,cond_true,nov]
 ·rfl
 ·intro h
  have h':=qZs (by simpa using h)
  have:=qyJ (p:=(wid (a + b)).1 < 0) (q:=(wid a).1 < 0) (by simp only [wid] at h' ⊢; omega)
  simp only [if_true,this,Bool.not_true]
theorem qop {a b:Int} (ha:inW a) (hb:inW b) (hc:inW (a - b)):qjS (wid a).1 (wid a).2 (wid b).1 (wid b).2 = some ((wid (a - b)).1,(wid (a - b)).2,0):=by
 rw [qEe,qmR]
 simp only [inW] at ha hb hc
 have e1:qeU (wid a).2 = true:=qeA (by simp only [wid]; omega) (by simp only [wid]; omega)
 have e2:qeU (wid b).2 = true:=qeA (by simp only [wid]; omega) (by simp only [wid]; omega)
 have e3:IntKind.i64.wrap (IntKind.i64.wrap ((wid a).1 - (wid b).1) - IntKind.i64.wrap (if (wid a).2 < (wid b).2 + 0 then 1 else 0)) = (wid (a - b)).1:=by
  by_cases c:(wid a).2 < (wid b).2 + 0
  ·rw [if_pos c]; simp only [qjr,wid] at c ⊢; omega
  ·rw [if_neg c]; simp only [qjr,wid] at c ⊢; omega
 have e4:((wid a).2 - (wid b).2 - 0) % 18446744073709551616 = (wid (a - b)).2:=by simp only [wid]; omega
 rw [e3,e4]
 simp only [ev_br,e1,e2,Bool.true_and,decide_true,cond_true]
 rw [show decide (0 <= 1) = true from rfl,cond_true,nov]
 ·rfl
 ·intro h
  simp only [if_true,Bool.not_eq_true',beq_eq_false_iff_ne,ne_eq,decide_eq_decide] at h
  have:=qyJ (p:=(wid (a - b)).1 < 0) (q:=(wid a).1 < 0) (by simp only [wid] at h ⊢; omega)
  simp only [if_true,this,Bool.not_true]
theorem qh4 {a:Int}:qh3 (wid a).1 (wid a).2 = some (if i64 a then (a,true) else (0,false)):=by
 rw [qEc,qmP]
 have hi:i64 (IntKind.i64.wrap (wid a).2):=by simp only [qjr,i64]; omega
 rw [qbh hi]
 simp only [ev_bi_some,ev_br,ev_at,if_true,Bool.and_true]
 by_cases h:i64 a
 ·have e:IntKind.i64.wrap (wid a).2 = a:=by simp only [qjr,wid,i64] at h ⊢; omega
  rw [if_pos h,e]
  simp
 ·have e:¬ ((wid (IntKind.i64.wrap (wid a).2)).1 = (wid a).1):=by simp only [qjr,wid,i64] at h ⊢; omega
  rw [if_neg h,beq_eq_false_iff_ne.2 e]
  rfl
theorem qfB {a e:Int}:qfA (wid a).1 (wid a).2 e = some (if e = 0 /\ i64 a then (a,0) else (0,6)):=by
 rw [qDi,qlT,qh4]
 simp only [ev_bi_some]
 by_cases h:e = 0
 ·subst h
  by_cases h2:i64 a
  ·rw [if_pos h2,if_pos ⟨rfl,h2⟩]; rfl
  ·rw [if_neg h2,if_neg (show ¬ ((0:Int) = 0 /\ i64 a) from fun h=>h2 h.2)]; rfl
 ·rw [if_neg (show ¬ (e = 0 /\ i64 a) from fun h'=>h h'.1),show (e != 0) = true by simpa using h]
  cases hq:decide (i64 a) <;> simp_all
theorem qoq {n:Int} (h:i64 n):qjT n = some (if n < 0 then -n else n):=by
 rw [qEf,qmS]
 simp only [ev_br,ev_at,w64]
 by_cases c:n < 0
 ·rw [decide_eq_true c,if_pos c,cond_true]; refine congrArg some ?_; show @Eq Int _ _; omega
 ·rw [decide_eq_false c,if_neg c,cond_false]; refine congrArg some ?_; show @Eq Int _ _; omega
theorem qhV {x0 x1 v:Int} (h0:i64 x0) (h1:0 <= x1) (h2:x1 < 18446744073709551616) (hv:x0 * 18446744073709551616 + x1 = v) (hm:v ≠ -170141183460469231731687303715884105728):qhU x0 x1 = some (wid (-v)):=by
 rw [qDq,ql3]
 have e1:qeU (IntKind.u64.wrap (-1 - x1)) = true:=by rw [w64]; exact qeA (by omega) (by omega)
 have e2:qeU 1 = true:=rfl
 simp only [ev_br,ev_at,e1,e2,Bool.true_and]
 rw [show decide (0 <= 1) = true from rfl,cond_true]
 simp only [w64,qjr,wid]
 congr 1
 simp only [Prod.mk.injEq]
 refine ⟨?_,?_⟩ <;> omega
theorem qzJ {a b:Int} (ha:i64 a) (hb:i64 b):qoo a b = some (wid (a * b)):=by
 rw [qEd,qmQ,qoq ha,qoq hb]
 obtain ⟨u,hu⟩:∃ u,u = if a < 0 then -a else a:=⟨_,rfl⟩
 obtain ⟨t,ht⟩:∃ t,t = if b < 0 then -b else b:=⟨_,rfl⟩
 have u0:0 <= u /\ u <= 9223372036854775808:=by rw [hu]; split <;> omega
 have t0:0 <= t /\ t <= 9223372036854775808:=by rw [ht]; split <;> omega
 have hp0:0 <= u * t:=Int.mul_nonneg u0.1 t0.1
 have hp1:u * t <= 9223372036854775808 * 9223372036854775808:=Int.mul_le_mul u0.2 t0.2 t0.1 (by omega)
 rw [<- hu,<- ht]
 simp only [ev_bi_some,ev_br,ev_at]
 rw [qeA u0.1 (by omega),qeA t0.1 (by omega)]
 simp only [Bool.and_self,cond_true,if_true]
 have hs:(a * b = u * t /\ (a < 0 ↔ b < 0)) \/ (a * b = -(u * t) /\ ¬ (a < 0 ↔ b < 0)):=by
  rw [hu,ht]
  by_cases c:a < 0 <;> by_cases d:b < 0
  ·rw [if_pos c,if_pos d]; exact .inl ⟨by rw [Int.neg_mul_neg],by simp [c,d]⟩
  ·rw [if_pos c,if_neg d]; exact .inr ⟨by rw [Int.neg_mul,Int.neg_neg],by simp [c,d]⟩
  ·rw [if_neg c,if_pos d]; exact .inr ⟨by rw [Int.mul_neg,Int.neg_neg],by simp [c,d]⟩
  ·rw [if_neg c,if_neg d]; exact .inl ⟨rfl,by simp [c,d]⟩
 have hw:IntKind.i64.wrap (u * t / 18446744073709551616) = u * t / 18446744073709551616:=by rw [qjr]; omega
 rw [hw]
 rcases hs with ⟨h1,h2⟩ | ⟨h1,h2⟩
 ·rw [qyJ h2,Bool.not_true,cond_false,h1]; rfl
 ·have:(decide (a < 0) == decide (b < 0)) = false:=by simpa using h2
  rw [this,Bool.not_false,cond_true,qhV (v:=u * t) (by simp only [i64]; omega) (by omega) (by omega) (by omega) (by omega),h1]
  rfl
theorem qEK {v:Int} (h:inW v) (hm:v ≠ -170141183460469231731687303715884105728):qwm (wid v).1 (wid v).2 = some (wid (if v < 0 then -v else v)):=by
 rw [qJP,qvq]
 simp only [inW] at h
 simp only [ev_br,ev_at]
 by_cases c:v < 0
 ·have e0:i64 (wid v).1:=by simp only [i64,wid]; omega
  have c':(wid v).1 < 0:=by simp only [wid]; omega
  rw [decide_eq_true c',cond_true,if_pos c,qhV (v:=v) e0 (by simp only [wid]; omega) (by simp only [wid]; omega) (by simp only [wid]; omega) hm]
  simp only [ev_bi_some,ev_at]
  have e:IntKind.u64.wrap (wid (-v)).1 = (wid (-v)).1:=by simp only [w64,wid]; omega
  rw [e]
 ·have c':¬ (wid v).1 < 0:=by simp only [wid]; omega
  have e:IntKind.u64.wrap (wid v).1 = (wid v).1:=by simp only [w64,wid]; omega
  rw [decide_eq_false c',cond_false,if_neg c,e]
theorem qtB {lo n:Int} (h0:0 <= lo) (h1:lo < 18446744073709551616) (hn:0 < n):qrQ 0 lo n = some (lo / n,lo % n):=by
 rw [qwb,qqY]
 have e1:(n == 0) = false:=by simp; omega
 have e2:decide (n <= 0) = false:=decide_eq_false (by omega)
 have e3:decide (n ≠ 0) = true:=decide_eq_true (by omega)
 have e4:((0:Int) == 0) = true:=rfl
 rw [ev_br,e1,cond_false,ev_br,e2,cond_false,ev_br,e4,cond_true,ev_br,e3,cond_true,ev_br,cond_true,ev_at]
 rw [Int.tdiv_eq_ediv_of_nonneg h0,Int.tmod_eq_emod_of_nonneg h0,w64]
 have a1:=Int.ediv_nonneg h0 (show 0 <= n by omega)
 have a2:=Int.ediv_le_self n h0
 rw [Int.emod_eq_of_lt a1 (by omega)]
theorem qlj {q:Int} (h0:0 <= q) (h1:q + 1 < 340282366920938463463374607431768211456):qwc (wid q).1 (wid q).2 1 1 = some ((wid (q + 1)).1,(wid (q + 1)).2,true):=by
 rw [qJu,qu7]
 have e1:qeU (wid q).1 = true:=qeA (by simp only [wid]; omega) (by simp only [wid]; omega)
 have e2:qeU (wid q).2 = true:=qeA (by simp only [wid]; omega) (by simp only [wid]; omega)
 have e3:qeU 1 = true:=rfl
 have e4:decide (0 <= 1) = true:=rfl
 have f1:(wid q).2 * 1 % 18446744073709551616 = (wid q).2:=by simp only [wid]; omega
 have f2:(wid q).1 * 1 % 18446744073709551616 = (wid q).1:=by simp only [wid]; omega
 have f3:(wid q).1 * 1 / 18446744073709551616 = 0:=by simp only [wid]; omega
 have f4:(wid q).2 * 1 / 18446744073709551616 = 0:=by simp only [wid]; omega
 have f5:IntKind.u64.wrap (0 + ((wid q).2 + 1 + 0) / 18446744073709551616) = ((wid q).2 + 1) / 18446744073709551616:=by simp only [w64,wid]; omega
 have e5:qeU (((wid q).2 + 1) / 18446744073709551616) = true:=qeA (by simp only [wid]; omega) (by simp only [wid]; omega)
 have g1:((wid q).1 + ((wid q).2 + 1) / 18446744073709551616 + 0) / 18446744073709551616 = 0:=by simp only [wid]; omega
 have g2:((wid q).1 + ((wid q).2 + 1) / 18446744073709551616 + 0) % 18446744073709551616 = (wid (q + 1)).1:=by simp only [wid]; omega
 have g3:((wid q).2 + 1 + 0) % 18446744073709551616 = (wid (q + 1)).2:=by simp only [wid]; omega
 rw [f1,f2,f3,f4,f5,g1,g2,g3]
 simp only [ev_br,e1,e2,e3,e4,e5,Bool.and_self,cond_true]
 rfl
theorem qcz {u:Int} {m:Bool} (h0:0 <= u) (h1:u < 170141183460469231731687303715884105728):qk3 (wid u).1 (wid u).2 m = some ((wid (if m = true then -u else u)).1,(wid (if m = true then -u else u)).2,0):=by
 rw [qJq,qu3]
 have e1:decide ((wid u).1 > 9223372036854775808) = false:=decide_eq_false (by simp only [wid]; omega)
 have e2:((wid u).1 == 9223372036854775808) = false:=by rw [beq_eq_false_iff_ne]; simp only [wid]; omega
 have e3:IntKind.i64.wrap (wid u).1 = (wid u).1:=by simp only [qjr,wid]; omega
 rw [e1,e2,e3]
 cases m
 ·rfl
 ·have:=qhV (x0:=(wid u).1) (x1:=(wid u).2) (v:=u) (by simp only [i64,wid]; omega) (by simp only [wid]; omega) (by simp only [wid]; omega) (by simp only [wid]; omega) (by omega)
  simp only [br_eq,cond_false,ev_bi_some,ev_br,cond_true,this,if_true]
  rfl
theorem wnn (x:Int):¬ (0:Int) > IntKind.u64.wrap x:=by rw [w64]; omega
theorem qtX {x0 x1 x2 x4 x5 x6 x7 x8:Int} (h:x7 < 4294967296):qwI (x0,x1,x2,0,x4,x5,x6,x7,x8) = some (1,(x0,x1,x2,0,x4,x5,x6,x7,x8)):=by
 rw [qwJ]
 refine qak ?_
 have e1:decide (x7 >= 4294967296) = false:=decide_eq_false (by omega)
 have e2:IntKind.u64.wrap (x7 * 0) = 0:=by rw [Int.mul_zero]; rfl
 have e3:=decide_eq_false (wnn (IntKind.u64.wrap (4294967296 * x8) + x5))
 simp only [qux,qxU,e1,e2,e3]
 rfl
theorem qtY {x0 x1 x2 x4 x5 x6 x7 x8:Int} (h:x8 < 4294967296):qo5 (x0,x1,x2,0,x4,x5,x6,x7,x8) = some (1,(x0,x1,x2,0,x4,x5,x6,x7,x8)):=by
 rw [qwK]
 refine qak ?_
 have e1:decide (x8 >= 4294967296) = false:=decide_eq_false (by omega)
 have e2:IntKind.u64.wrap (x8 * 0) = 0:=by rw [Int.mul_zero]; rfl
 have e3:=decide_eq_false (wnn (IntKind.u64.wrap (4294967296 * x6) + x4))
 simp only [quy,qxV,e1,e2,e3]
 rfl
set_option maxHeartbeats 1000000 in
theorem qnz {hi lo:Int} (h0:0 < hi) (h1:hi < 1000000) (h2:0 <= lo) (h3:lo < 18446744073709551616):qrQ hi lo 1000000 = some ((hi * 18446744073709551616 + lo) / 1000000,(hi * 18446744073709551616 + lo) % 1000000):=by
 rw [qwb,qqY]
 have b0:Lib.bitLen (1000000:Int).toNat = 20:=by decide
 have b1:IntKind.u64.wrap (64 - ((20:Nat):Int)) = 44:=by decide
 have b2:IntKind.u64.wrap (64 - 44) = 20:=by decide
 have b3:min (44:Int).toNat 64 = 44:=by decide
 have b4:min (20:Int).toNat 64 = 20:=by decide
 have y0:IntKind.u64.wrap (1000000 * 17592186044416) = 17592186044416000000:=by decide
 have y1:(17592186044416000000:Int).fdiv 4294967296 = 4096000000:=by decide
 have y2:IntKind.u64.wrap ((BitVec.ofInt 64 17592186044416000000 &&& BitVec.ofInt 64 4294967295).toNat:Int) = 0:=by decide
 have p44:(2:Int) ^ 44 = 17592186044416:=by decide
 have p20:(2:Int) ^ 20 = 1048576:=by decide
 have p32:(2:Int) ^ 32 = 4294967296:=by decide
 obtain ⟨N,hN⟩:∃ N,N = hi * 17592186044416 + lo / 1048576:=⟨_,rfl⟩
 obtain ⟨q1,hq1⟩:∃ q1,q1 = N / 4096000000:=⟨_,rfl⟩
 obtain ⟨u,hu⟩:∃ u,u = (N - q1 * 4096000000) * 4294967296 + lo % 1048576 * 4096:=⟨_,rfl⟩
 obtain ⟨q0,hq0⟩:∃ q0,q0 = u / 4096000000:=⟨_,rfl⟩
 obtain ⟨a1,a2,a3,a4,a5,a6,a7,a8⟩:=qyS (by omega) h1 h2 h3 hN hq1 hu hq0
 have hN0:0 <= N /\ N < 17592186044416000000:=by omega
 have z0:IntKind.u64.wrap (hi * 17592186044416) = hi * 17592186044416:=by rw [w64]; omega
 have z1:lo.fdiv 1048576 = lo / 1048576:=Int.fdiv_eq_ediv_of_nonneg _ (by decide)
 have z2:IntKind.u64.wrap ((BitVec.ofInt 64 (hi * 17592186044416) ||| BitVec.ofInt 64 (lo / 1048576)).toNat:Int) = N:=by rw [q3L (by omega) (by omega) (by omega) (by omega),hN]
 obtain ⟨m,hm⟩:∃ m,m = IntKind.u64.wrap (lo * 17592186044416):=⟨_,rfl⟩
 have hm':m = lo % 1048576 * 17592186044416:=by rw [hm,w64]; omega
 have z3:m.fdiv 4294967296 = lo % 1048576 * 4096:=by rw [Int.fdiv_eq_ediv_of_nonneg _ (by decide)]; omega
 have z4:IntKind.u64.wrap ((BitVec.ofInt 64 m &&& BitVec.ofInt 64 4294967295).toNat:Int) = 0:=by rw [qXx (by omega) (by omega)]; omega
 have z5:IntKind.u64.wrap (N.tdiv 4096000000) = q1:=by rw [Int.tdiv_eq_ediv_of_nonneg hN0.1,w64]; omega
 have z6:IntKind.u64.wrap (N - IntKind.u64.wrap (q1 * 4096000000)) = N - q1 * 4096000000:=by simp only [w64]; omega
 have z7:IntKind.u64.wrap (IntKind.u64.wrap (IntKind.u64.wrap (N * 4294967296) + lo % 1048576 * 4096) - IntKind.u64.wrap (q1 * 17592186044416000000)) = u:=by simp only [w64]; omega
 have z8:IntKind.u64.wrap (u.tdiv 4096000000) = q0:=by rw [Int.tdiv_eq_ediv_of_nonneg a5,w64]; omega
 have z9:IntKind.u64.wrap (IntKind.u64.wrap (q1 * 4294967296) + q0) = (hi * 18446744073709551616 + lo) / 1000000:=by simp only [w64]; omega
 have z10:(IntKind.u64.wrap (IntKind.u64.wrap (IntKind.u64.wrap (u * 4294967296) + 0) - IntKind.u64.wrap (q0 * 17592186044416000000))).fdiv 17592186044416 = (hi * 18446744073709551616 + lo) % 1000000:=by
  rw [Int.fdiv_eq_ediv_of_nonneg _ (by decide)]
  simp only [w64]; omega
 have e1:((1000000:Int) == 0) = false:=rfl
 have e2:decide ((1000000:Int) <= hi) = false:=decide_eq_false (by omega)
 have e3:(hi == 0) = false:=by rw [beq_eq_false_iff_ne]; omega
 have e4:qeU 1000000 = true:=rfl
 have d44:decide ((0:Int) <= 44) = true:=rfl
 have d20:decide ((0:Int) <= 20) = true:=rfl
 have dn:decide ((4096000000:Int) ≠ 0) = true:=rfl
 simp only [b0,b1,b2,b3,b4,y0,y1,y2,p44,p20,p32,z0,z1,z2,<- hm,z3,z4,z5,z6,ev_br,e1,e2,e3,e4,d44,d20,dn,cond_true,cond_false,qtX a2]
 have hp0:∀ {τ:Type} (w:τ),pj 0 (some (1,w)) = none:=fun _=>rfl
 have hp1:∀ {τ:Type} (w:τ),pj 1 (some (1,w)) = some w:=fun _=>rfl
 simp only [hp0,hp1,ev_bi_none,ev_bi_some,ev_br,z7,z8,dn,cond_true,y0,d44,qtY a4,ev_at,b3,p44,z9,z10]
def dvs (u n:Int):Prop:=0 <= u /\ 0 < n /\ n < 9223372036854775808 /\ (u < 18446744073709551616 \/ (n = 1000000 /\ u < 18446744073709551616000000))
theorem qjE {u n:Int} (h:dvs u n):qv9 (wid u).1 (wid u).2 n = some ((wid (u / n)).1,(wid (u / n)).2,u % n):=by
 obtain ⟨h0,h1,h2,h3⟩:=h
 rw [qJp,qu2]
 have e3:decide (n ≠ 0) = true:=decide_eq_true (by omega)
 have hw:∀ d:Int,0 <= d -> d < 18446744073709551616 -> (wid d).1 = 0 /\ (wid d).2 = d:=fun d a b=>by simp only [wid]; omega
 rw [ev_br,e3,cond_true]
 by_cases c:u < 18446744073709551616
 ·obtain ⟨a1,a2⟩:=hw u h0 c
  have q0:=Int.ediv_nonneg h0 (show 0 <= n by omega)
  have q1:=Int.ediv_le_self n h0
  obtain ⟨a3,a4⟩:=hw (u / n) q0 (by omega)
  rw [a1,a2,a3,a4,Int.zero_tmod,qtB h0 c h1]
  simp only [ev_bi_some,ev_br,cond_true,ev_at,Int.zero_tdiv]
  rfl
 ·obtain ⟨rfl,h3⟩:n = 1000000 /\ u < 18446744073709551616000000:=by omega
  have b1:0 < (wid u).1 /\ (wid u).1 < 1000000:=by simp only [wid]; omega
  have b2:0 <= (wid u).2 /\ (wid u).2 < 18446744073709551616:=by simp only [wid]; omega
  have e1:(wid u).1.tmod 1000000 = (wid u).1:=Int.tmod_eq_of_lt (by omega) (by omega)
  have e2:(wid u).1.tdiv 1000000 = 0:=Int.tdiv_eq_zero_of_lt (by omega) (by omega)
  have hv:(wid u).1 * 18446744073709551616 + (wid u).2 = u:=qq9 u
  obtain ⟨a3,a4⟩:=hw (u / 1000000) (by omega) (by omega)
  rw [e1,qnz b1.1 b1.2 b2.1 b2.2,hv,a3,a4]
  simp only [ev_bi_some,ev_br,cond_true,ev_at,e2]
  rfl
theorem qzY {v:Int}:(if v < 0 then -v else v) = v.natAbs:=by split <;> omega
theorem qzI {v n:Int} (h:dvs v.natAbs n):qon (wid v).1 (wid v).2 n = some ((wid (v / n)).1,(wid (v / n)).2,v % n,0):=by
 have h':=h
 obtain ⟨h0,h1,h2,h3⟩:=h'
 have hb:(v.natAbs:Int) < 18446744073709551616000000:=by omega
 rw [qEb,qmO,qEK (by simp only [inW]; omega) (by omega),qzY]
 have e1:decide (n < 1) = false:=decide_eq_false (by omega)
 have e2:IntKind.u64.wrap n = n:=by rw [w64]; omega
 have hs:decide ((wid v).1 < 0) = decide (v < 0):=by congr 1; apply propext; simp only [wid]; omega
 rw [e1,e2,hs]
 simp only [ev_br,cond_false,ev_bi_some,qjE h]
 obtain ⟨U,hU⟩:∃ U:Int,U = v.natAbs:=⟨_,rfl⟩
 rw [<- hU] at h0 h3 hb ⊢
 have q0:=Int.ediv_nonneg h0 (show 0 <= n by omega)
 have q1:=Int.ediv_le_self n h0
 have r0:=Int.emod_nonneg U (show n ≠ 0 by omega)
 have r1:=Int.emod_lt_of_pos U h1
 have m1:=Int.mul_ediv_add_emod U n
 by_cases c:v < 0
 ·have hv:v = -U:=by omega
  rw [decide_eq_true c]
  by_cases d:U % n > 0
  ·have k1:v / n = -(U / n + 1) /\ v % n = n - U % n:=by
    have:v = n - U % n + n * (-(U / n + 1)):=by rw [Int.mul_neg,Int.mul_add]; omega
    rw [this]
    refine ⟨?_,?_⟩
    ·rw [Int.add_mul_ediv_left _ _ (by omega),Int.ediv_eq_zero_of_lt (by omega) (by omega)]; omega
    ·rw [Int.add_mul_emod_self_left,Int.emod_eq_of_lt (by omega) (by omega)]
   have w1:IntKind.i64.wrap (IntKind.u64.wrap (n - U % n)) = n - U % n:=by rw [w64,qjr]; omega
   have nz:((wid (U / n + 1)).1 == 0 && ((wid (U / n + 1)).2 == 0 && true)) = false:=by
    rw [Bool.and_true,Bool.and_eq_false_iff,beq_eq_false_iff_ne,beq_eq_false_iff_ne]
    simp only [wid]; omega
   rw [decide_eq_true d]
   simp only [br_eq,cond_true,ev_bi_some,ev_br,qlj q0 (show U / n + 1 < 340282366920938463463374607431768211456 by omega),nz,if_true,Bool.not_false,qcz (m:=true) (show 0 <= U / n + 1 by omega) (by omega),ev_at,w1,k1]
  ·have hr:U % n = 0:=by omega
   have k1:v / n = -(U / n) /\ v % n = 0:=by
    have:v = n * (-(U / n)):=by rw [Int.mul_neg]; omega
    rw [this]
    exact ⟨Int.mul_ediv_cancel_left _ (by omega),Int.mul_emod_right _ _⟩
   have hq:0 < U / n:=by
    rcases Int.lt_or_le 0 (U / n) with h | h
    ·exact h
    ·have:U / n = 0:=by omega
     rw [this] at m1; omega
   have nz:((wid (U / n)).1 == 0 && ((wid (U / n)).2 == 0 && true)) = false:=by
    rw [Bool.and_true,Bool.and_eq_false_iff,beq_eq_false_iff_ne,beq_eq_false_iff_ne]
    simp only [wid]; omega
   rw [decide_eq_false d]
   simp only [br_eq,cond_true,cond_false,ev_bi_some,ev_br,nz,if_true,Bool.not_false,qcz (m:=true) q0 (show U / n < 170141183460469231731687303715884105728 by omega),ev_at,hr,k1]
   rfl
 ·have hv:v = U:=by omega
  rw [decide_eq_false c]
  have w1:IntKind.i64.wrap (U % n) = U % n:=by rw [qjr]; omega
  simp only [br_eq,cond_true,cond_false,ev_bi_some,ev_br,qcz (m:=false) q0 (show U / n < 170141183460469231731687303715884105728 by omega),ev_at,hv,w1]
  rfl
def qrk (q t n:Int):Int:=if t > n - t then 1 else if t < n - t then 0 else q % 2
theorem qR1 {v n:Int} (hn:0 < n):qpU v n = if 0 < v % n then v / n + qrk (v / n) (v % n) n else v / n:=by
 unfold qpU qrk
 have m1:=Int.emod_nonneg v (show n ≠ 0 by omega)
 by_cases h1:v % n > n - v % n
 ·rw [if_pos (.inl h1),if_pos (by omega),if_pos h1]
 ·by_cases h2:v % n < n - v % n
  ·rw [if_neg (by omega)]
   by_cases h3:0 < v % n
   ·rw [if_pos h3,if_neg h1,if_pos h2]; omega
   ·rw [if_neg h3]
  ·have h4:v % n = n - v % n:=by omega
   rw [if_pos (show 0 < v % n by omega),if_neg h1,if_neg h2]
   by_cases h5:v / n % 2 = 1
   ·rw [if_pos (.inr ⟨h4,h5⟩),h5]
   ·rw [if_neg (by omega)]; omega
theorem qC0 {q t n:Int} (ht:0 <= t) (htn:t < n) (hn:n < 9223372036854775808):qwj (wid q).1 (wid q).2 t n 6 = some (qrk q t n):=by
 rw [qJI,qvk]
 have e0:decide ((6:Int) < 5) = false:=rfl
 have e1:IntKind.i64.wrap (n - t) = n - t:=by rw [qjr]; omega
 have e2:((6:Int) == 6) = true:=rfl
 have e3:IntKind.i64.wrap (IntKind.u64.wrap ((BitVec.ofInt 64 (wid q).2 &&& BitVec.ofInt 64 1).toNat:Int)) = q % 2:=by
  rw [Go.Tk.and_one (by simp only [wid]; omega) (by simp only [wid]; omega),qjr]; simp only [wid]; omega
 rw [e0,e1,e2,e3]
 simp only [ev_br,ev_at,cond_false,cond_true]
 unfold qrk
 by_cases h1:t > n - t
 ·rw [decide_eq_true h1,if_pos h1]; rfl
 ·rw [decide_eq_false h1,if_neg h1]
  by_cases h2:t < n - t
  ·rw [decide_eq_true h2,if_pos h2]; rfl
  ·rw [decide_eq_false h2,if_neg h2]; rfl
theorem qjW {v n:Int} (h:dvs v.natAbs n):qoy (wid v).1 (wid v).2 n 6 = some (if i64 (qpU v n) then (qpU v n,0) else (0,6)):=by
 have h':=h
 obtain ⟨h0,h1,h2,h3⟩:=h'
 have hb:(v.natAbs:Int) < 18446744073709551616000000:=by omega
 have hv:qrS 6 = some true:=by rw [qJy,qva]; rfl
 rw [qJs,qu5,hv,decide_eq_false (show ¬ n < 1 by omega)]
 simp only [br_eq,cond_false,sm_some,gv_some,cond_true,Bool.not_true,ev_bi_some,ev_br,qzI h]
 have t0:=Int.emod_nonneg v (show n ≠ 0 by omega)
 have t1:=Int.emod_lt_of_pos v h1
 have m1:=Int.mul_ediv_add_emod v n
 have hq:-18446744073709551616000000 <= v / n /\ v / n < 18446744073709551616000000:=by
  refine ⟨?_,?_⟩
  ·rcases Int.lt_or_le (v / n) (-18446744073709551616000000) with h | h
   ·have:=Int.mul_le_mul_of_nonneg_right (show (1:Int) <= n by omega) (show 0 <= -(v / n) - 1 by omega)
    rw [Int.one_mul,Int.mul_sub,Int.mul_neg,Int.mul_one] at this
    omega
   ·exact h
  ·rcases Int.lt_or_le (v / n) 18446744073709551616000000 with h | h
   ·exact h
   ·have:=Int.mul_le_mul_of_nonneg_right (show (1:Int) <= n by omega) (show 0 <= v / n by omega)
    rw [Int.one_mul] at this
    omega
 rw [qR1 h1]
 by_cases c:v % n > 0
 ·have hm:0 <= qrk (v / n) (v % n) n /\ qrk (v / n) (v % n) n <= 1:=by unfold qrk; split <;> (try split) <;> omega
  have c':0 < v % n:=c
  rw [decide_eq_true c,if_pos c']
  simp only [cond_true,ev_bi_some,qC0 t0 t1 h2,qbh (show i64 (qrk (v / n) (v % n) n) by simp only [i64]; omega),qom (a:=v / n) (b:=qrk (v / n) (v % n) n) (by simp only [inW]; omega) (by simp only [inW]; omega) (by simp only [inW]; omega),qh4,ev_br]
  by_cases k:i64 (v / n + qrk (v / n) (v % n) n)
  ·rw [if_pos k,if_pos k]; rfl
  ·rw [if_neg k,if_neg k]; rfl
 ·have c':¬ 0 < v % n:=c
  rw [decide_eq_false c,if_neg c']
  simp only [cond_false,ev_bi_some,qh4,ev_br]
  by_cases k:i64 (v / n)
  ·rw [if_pos k,if_pos k]; rfl
  ·rw [if_neg k,if_neg k]; rfl
end Go.Proofs.H15p
