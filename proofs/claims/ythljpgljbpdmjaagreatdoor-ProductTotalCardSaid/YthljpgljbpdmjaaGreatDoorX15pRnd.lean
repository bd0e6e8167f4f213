/- The document's words of 128 bits and rounding: what the printed functions come to. -/
import Derived.Test.YthljpgljbpdmjaaGreatDoorX15pWid
set_option linter.unusedVariables false
set_option linter.unusedSimpArgs false
set_option linter.unnecessarySimpa false
namespace Go.Proofs.H15p
open Go Go.Eng Go.Tk
set_option maxRecDepth 20000
theorem qaw {n:Int} (h:i64 n):qbZ n = some (wid n):=by
 obtain ⟨h0,h1⟩:=h
 rw [qEq,qm3]
 simp only [ev_br,ev_at,w64]
 unfold wid
 by_cases c:n < 0
 ·rw [decide_eq_true c,cond_true,show n / 18446744073709551616 = -1 by omega]
 ·rw [decide_eq_false c,cond_false,show n / 18446744073709551616 = 0 by omega]
theorem qcB {v:Int} (h:inW v):qex (wid v).1 (wid v).2 = some (decide (v < 0),(wid v.natAbs).1,(wid v.natAbs).2):=by
 simp only [inW] at h
 rw [qDN,qmp]
 simp only [ev_br,ev_at,w64]
 by_cases c:v < 0
 ·rw [decide_eq_true c,decide_eq_false (show ¬ (wid v).1 >= 0 by simp only [wid]; omega),cond_false]
  by_cases d:((-1 - (wid v).2) % 18446744073709551616 + 1) % 18446744073709551616 = 0
  ·rw [show (((-1 - (wid v).2) % 18446744073709551616 + 1) % 18446744073709551616 == 0) = true by simpa using d,cond_true]
   simp only [wid] at d ⊢
   congr 2
   simp only [Prod.mk.injEq]
   refine ⟨?_,?_⟩ <;> (show @Eq Int _ _) <;> omega
  ·rw [show (((-1 - (wid v).2) % 18446744073709551616 + 1) % 18446744073709551616 == 0) = false by rw [beq_eq_false_iff_ne]; exact d,cond_false]
   simp only [wid] at d ⊢
   congr 2
   simp only [Prod.mk.injEq]
   refine ⟨?_,?_⟩ <;> (show @Eq Int _ _) <;> omega
 ·rw [decide_eq_false c,decide_eq_true (show (wid v).1 >= 0 by simp only [wid]; omega),cond_true]
  simp only [wid]
  congr 2
  simp only [Prod.mk.injEq]
  refine ⟨?_,?_⟩ <;> (show @Eq Int _ _) <;> omega
theorem qnr {c d:Bool}:br c (some d) (some false) = some (c && d):=by cases c <;> rfl
theorem qdO {a b:Mg} (ha:okM a) (hb:okM b):qfF a.1 a.2 b.1 b.2 = some ((qbm a b).1.1,(qbm a b).1.2,(qbm a b).2):=by
 rw [qD1,qmE]
 simp only [ev_br,w64,qnr,ev_bi_some,ev_at,qbm]
 by_cases c:(a.2 + b.2) % 18446744073709551616 < a.2
 ·simp only [decide_eq_true c,cond_true,if_pos c]
 ·simp only [decide_eq_false c,cond_false,if_neg c]
theorem qzC {n:Int} (h:i64 n):qog n = some (n.natAbs:Int):=by
 obtain ⟨h0,h1⟩:=h
 rw [qD2,qmF]
 simp only [ev_br,ev_at,w64]
 by_cases c:n < 0
 ·rw [decide_eq_true c,cond_true]; refine congrArg some ?_; show @Eq Int _ _; omega
 ·rw [decide_eq_false c,cond_false]; refine congrArg some ?_; show @Eq Int _ _; omega
theorem qzZ {m:Mg} (hm:okM m) {x5 x6:Int}:∀ (r:Nat) (n:Int) (o:Mg) (ok:Bool) (b:Int),r <= 64 -> b + r = 64 -> 0 <= n -> n < 18446744073709551616 -> okM o ->
  qt3 (n,ok,b,m.1,m.2,x5,x6,o.1,o.2) = some (0,((qb3 m r (n,o,ok)).1,(qb3 m r (n,o,ok)).2.2,64,m.1,m.2,x5,x6,(qb3 m r (n,o,ok)).2.1.1,(qb3 m r (n,o,ok)).2.1.2)):=by
 intro r
 induction r with
 | zero=>
  intro n o ok b hr hb n0 n1 ho
  have:b = 64:=by omega
  subst this
  rw [qgP]
  exact qak rfl
 | succ r ih=>
  intro n o ok b hr hb n0 n1 ho
  obtain ⟨p1,_,_⟩:=qkf ho ho
  obtain ⟨q1,_,_⟩:=qkf p1 hm
  have hn2:IntKind.u64.wrap (n * 2 ^ 1) = (n * 2) % 18446744073709551616:=by rw [w64]; rfl
  have hw:IntKind.i64.wrap (b + 1) = b + 1:=by rw [qjr]; omega
  have hs:(qi3 (n,ok,b,m.1,m.2,x5,x6,o.1,o.2)).ev = some (.next ((qde m (n,o,ok)).1,(qde m (n,o,ok)).2.2,b + 1,m.1,m.2,x5,x6,(qde m (n,o,ok)).2.1.1,(qde m (n,o,ok)).2.1.2)):=by
   simp only [qi3,qsV]
   rw [ev_br,decide_eq_true (show b < 64 by omega),cond_true,qdO ho ho,ev_bi_some,qnr,ev_bi_some,ev_br,qIH n0 n1]
   simp only [hn2,hw,qde]
   by_cases c:9223372036854775808 <= n
   ·simp only [if_pos c]
    rw [show ((9223372036854775808:Int) != 0) = true from rfl,cond_true,qdO p1 hm,ev_bi_some,qnr,ev_bi_some,ev_at]
   ·simp only [if_neg c]
    rw [show ((0:Int) != 0) = false from rfl,cond_false,ev_at]
  rw [qgP,qaA hs,<- qgP]
  have:=ih (qde m (n,o,ok)).1 (qde m (n,o,ok)).2.1 (qde m (n,o,ok)).2.2 (b + 1) (by omega) (by omega) (by simp only [qde]; omega) (by simp only [qde]; omega) (by simp only [qde]; split <;> assumption)
  rw [this]
  rfl
theorem qiI {a:Mg} (ha:okM a):qgj a.1 a.2 = some ((qbm a a).1.1,(qbm a a).1.2,(qbm a a).2):=by
 rw [qDf,qlQ,qdO ha ha]; rfl
theorem qEY {n:Int} (hn0:0 < n) (hn:n < 9223372036854775808) {x5 x6:Int}:∀ (r:Nat) (m q:Mg) (t b:Int),r <= 128 -> b + r = 128 -> okM m -> okM q -> 0 <= t -> t < n ->
  qBB (n,t,b,m.1,m.2,x5,x6,q.1,q.2) = some (0,(n,(qbs n r (m,q,t)).2.2,128,(qbs n r (m,q,t)).1.1,(qbs n r (m,q,t)).1.2,x5,x6,(qbs n r (m,q,t)).2.1.1,(qbs n r (m,q,t)).2.1.2)):=by
 intro r
 induction r with
 | zero=>
  intro m q t b hr hb hm hq t0 t1
  have:b = 128:=by omega
  subst this
  rw [qiP]
  exact qak rfl
 | succ r ih=>
  intro m q t b hr hb hm hq t0 t1
  obtain ⟨p1,_,_⟩:=qkf hm hm
  obtain ⟨q1,_,_⟩:=qkf hq hq
  have hm':=hm
  obtain ⟨m0,m1,_,_⟩:=hm'
  have ht2:IntKind.u64.wrap (t * 2 ^ 1) = t * 2 % 18446744073709551616:=by rw [w64]; rfl
  have hw:IntKind.i64.wrap (b + 1) = b + 1:=by rw [qjr]; omega
  have hs:(qqt (n,t,b,m.1,m.2,x5,x6,q.1,q.2)).ev = some (.next (n,(qcp n (m,q,t)).2.2,b + 1,(qcp n (m,q,t)).1.1,(qcp n (m,q,t)).1.2,x5,x6,(qcp n (m,q,t)).2.1.1,(qcp n (m,q,t)).2.1.2)):=by
   simp only [qqt,qxW]
   rw [ev_br,decide_eq_true (show b < 128 by omega),cond_true,ev_br,qIH m0 m1]
   simp only [qiI hm,qiI hq,ev_bi_some,ev_br,ev_at,ht2,hw,qcp]
   by_cases c:9223372036854775808 <= m.1
   ·simp only [if_pos c]
    rw [show ((9223372036854775808:Int) != 0) = true from rfl,cond_true]
    simp only [w64]
    by_cases d:n <= (t * 2 % 18446744073709551616 + 1) % 18446744073709551616
    ·rw [decide_eq_true (show (t * 2 % 18446744073709551616 + 1) % 18446744073709551616 >= n from d),cond_true]; simp only [if_pos d]
    ·rw [decide_eq_false (show ¬ (t * 2 % 18446744073709551616 + 1) % 18446744073709551616 >= n from d),cond_false]; simp only [if_neg d]
   ·simp only [if_neg c]
    rw [show ((0:Int) != 0) = false from rfl,cond_false]
    simp only [w64]
    by_cases d:n <= t * 2 % 18446744073709551616
    ·rw [decide_eq_true (show t * 2 % 18446744073709551616 >= n from d),cond_true]; simp only [if_pos d]
    ·rw [decide_eq_false (show ¬ t * 2 % 18446744073709551616 >= n from d),cond_false]; simp only [if_neg d]
  have hk:okM (qcp n (m,q,t)).1 /\ okM (qcp n (m,q,t)).2.1 /\ 0 <= (qcp n (m,q,t)).2.2 /\ (qcp n (m,q,t)).2.2 < n:=by
   simp only [qcp]
   refine ⟨p1,?_,?_,?_⟩
   ·split <;> split <;> first | exact q1 | (simp only [okM] at q1 ⊢; omega)
   ·split <;> split <;> omega
   ·split <;> split <;> omega
  rw [qiP,qaA hs,<- qiP]
  rw [ih (qcp n (m,q,t)).1 (qcp n (m,q,t)).2.1 (qcp n (m,q,t)).2.2 (b + 1) (by omega) (by omega) hk.1 hk.2.1 hk.2.2.1 hk.2.2.2]
  rfl
theorem qbY {u:Int} {s:Bool} (h0:0 <= u) (h1:u < 170141183460469231731687303715884105728):qey s (wid u).1 (wid u).2 = some ((wid (if s = true then -u else u)).1,(wid (if s = true then -u else u)).2,true):=by
 rw [qDZ,qmC]
 have hd:decide ((wid u).1 < 9223372036854775808) = true:=decide_eq_true (by simp only [wid]; omega)
 simp only [ev_br,ev_at,w64,qjr,hd,cond_true]
 cases s
 ·simp only [Bool.not_false,cond_true,Bool.false_eq_true,if_false]
  rw [show ((wid u).1 + 9223372036854775808) % 18446744073709551616 - 9223372036854775808 = (wid u).1 by simp only [wid]; omega]
 ·simp only [Bool.not_true,cond_false,if_true]
  by_cases d:((-1 - (wid u).2) % 18446744073709551616 + 1) % 18446744073709551616 = 0
  ·rw [show (((-1 - (wid u).2) % 18446744073709551616 + 1) % 18446744073709551616 == 0) = true by simpa using d,cond_true]
   refine congrArg some ?_
   simp only [Prod.mk.injEq]
   simp only [wid] at d ⊢
   refine ⟨?_,?_,trivial⟩ <;> (show @Eq Int _ _) <;> omega
  ·rw [show (((-1 - (wid u).2) % 18446744073709551616 + 1) % 18446744073709551616 == 0) = false by rw [beq_eq_false_iff_ne]; exact d,cond_false]
   refine congrArg some ?_
   simp only [Prod.mk.injEq]
   simp only [wid] at d ⊢
   refine ⟨?_,?_,trivial⟩ <;> (show @Eq Int _ _) <;> omega
theorem qCE {u t:Int} (h0:0 <= u) (h1:u < 85070591730234615865843651857942052864) (h2:0 <= t) (h3:t < 85070591730234615865843651857942052864):qbm (wid u) (wid t) = (wid (u + t),true):=by
 have a:=qdW h0 (by omega)
 have b:=qdW h2 (by omega)
 have c:=qdW (show 0 <= u + t by omega) (by omega)
 obtain ⟨p1,p2,p3⟩:=qiX a b (by rw [qq9,qq9]; omega)
 rw [qq9,qq9] at p2
 have:(qbm (wid u) (wid t)).1 = wid (u + t):=qPI p1 c (by rw [p2,qq9])
 rw [<- this,<- p3]
theorem qnD {u t:Int} (h0:0 <= t) (h1:t <= u) (h2:u < 85070591730234615865843651857942052864):qjK (wid u).1 (wid u).2 (wid t).1 (wid t).2 = some (wid (u - t)):=by
 rw [qDO,qmq]
 simp only [ev_br,ev_at,w64]
 by_cases c:(wid u).2 < (wid t).2
 ·rw [decide_eq_true c,cond_true]
  refine congrArg some ?_
  simp only [wid] at c ⊢
  simp only [Prod.mk.injEq]
  refine ⟨?_,?_⟩ <;> (show @Eq Int _ _) <;> omega
 ·rw [decide_eq_false c,cond_false]
  refine congrArg some ?_
  simp only [wid] at c ⊢
  simp only [Prod.mk.injEq]
  refine ⟨?_,?_⟩ <;> (show @Eq Int _ _) <;> omega
theorem qCZ {u t:Int} (h0:0 <= t) (h1:0 <= u):qof (wid u).1 (wid u).2 (wid t).1 (wid t).2 = some (decide (u < t)):=by
 rw [qD0,qmD]
 by_cases c:(wid u).1 < (wid t).1
 ·rw [decide_eq_true c,decide_eq_true (show u < t by simp only [wid] at c; omega)]; rfl
 ·rw [decide_eq_false c]
  by_cases d:(wid u).1 = (wid t).1
  ·rw [show ((wid u).1 == (wid t).1) = true by simpa using d]
   simp only [br_eq,cond_true,cond_false,ev_bi_some,ev_at]
   congr 2
   apply propext
   simp only [wid] at c d ⊢
   omega
  ·rw [show ((wid u).1 == (wid t).1) = false by rw [beq_eq_false_iff_ne]; exact d,decide_eq_false (show ¬ u < t by simp only [wid] at c d; omega)]; rfl
def sgn (s:Bool) (u:Int):Int:=if s = true then -u else u
theorem qv3 {s r:Bool} {u t:Int} (h0:0 <= u) (h1:u < 85070591730234615865843651857942052864) (h2:0 <= t) (h3:t < 85070591730234615865843651857942052864):qjV s (wid u).1 (wid u).2 r (wid t).1 (wid t).2 = some ((wid (sgn s u + sgn r t)).1,(wid (sgn s u + sgn r t)).2,0):=by
 rw [qEm,qmZ]
 rw [ev_br,if_neg (by decide)]
 cases e:(s == r)
 ·rw [cond_false,qCZ h2 h0,ev_bi_some,ev_br]
  have hsr:r = !s:=by cases s <;> cases r <;> simp_all
  subst hsr
  by_cases c:u < t
  ·rw [decide_eq_true c,cond_true,qnD h0 (by omega) h3,ev_bi_some,qbY (by omega) (by omega),ev_bi_some]
   have:sgn s u + sgn (!s) t = if (!s) = true then -(t - u) else t - u:=by cases s <;> simp [sgn] <;> omega
   rw [this]; rfl
  ·rw [decide_eq_false c,cond_false,qnD h2 (by omega) h1,ev_bi_some,qbY (by omega) (by omega),ev_bi_some]
   have:sgn s u + sgn (!s) t = if s = true then -(u - t) else u - t:=by cases s <;> simp [sgn] <;> omega
   rw [this]; rfl
 ·have hsr:s = r:=by simpa using e
  subst hsr
  rw [cond_true,qdO (qdW h0 (by omega)) (qdW h2 (by omega)),qCE h0 h1 h2 h3,ev_bi_some]
  simp only [qbY (s:=s) (show 0 <= u + t by omega) (by omega),ev_bi_some]
  have:sgn s u + sgn s t = if s = true then -(u + t) else u + t:=by cases s <;> simp [sgn] <;> omega
  rw [this]; rfl
theorem qPn {v:Int}:sgn (decide (v < 0)) v.natAbs = v:=by
 unfold sgn
 by_cases h:v < 0
 ·rw [decide_eq_true h,if_pos rfl]; omega
 ·rw [decide_eq_false h,if_neg (by decide)]; omega
theorem q0a {v:Int}:sgn (!decide (v < 0)) v.natAbs = -v:=by
 unfold sgn
 by_cases h:v < 0
 ·rw [decide_eq_true h,if_neg (by decide)]; omega
 ·rw [decide_eq_false h,if_pos (by decide)]; omega
def inH (v:Int):Prop:=(v.natAbs:Int) < 85070591730234615865843651857942052864
theorem qsc {v:Int} (h:inH v):inW v:=by simp only [inH,inW] at *; omega
theorem qos {a b:Int} (ha:inH a) (hb:inH b):qjU (wid a).1 (wid a).2 (wid b).1 (wid b).2 = some ((wid (a + b)).1,(wid (a + b)).2,0):=by
 rw [qEh,qmU,qcB (qsc ha),ev_bi_some,qcB (qsc hb),ev_bi_some]
 simp only [qv3 (show (0:Int) <= a.natAbs by omega) ha (show (0:Int) <= b.natAbs by omega) hb,qPn,ev_bi_some]
 rfl
theorem qh7 {a b:Int} (ha:inH a) (hb:inH b):qh6 (wid a).1 (wid a).2 (wid b).1 (wid b).2 = some ((wid (a - b)).1,(wid (a - b)).2,0):=by
 rw [qEl,qmY,qcB (qsc ha),ev_bi_some,qcB (qsc hb),ev_bi_some]
 simp only [qv3 (show (0:Int) <= a.natAbs by omega) ha (show (0:Int) <= b.natAbs by omega) hb,qPn,q0a,ev_bi_some,<- Int.sub_eq_add_neg]
 rfl
theorem qyX {u n:Int} (h0:0 <= u) (hu:u < 340282366920938463463374607431768211456) (n0:0 <= n) (n1:n < 18446744073709551616) (hlt:u * n < 340282366920938463463374607431768211456):qn5 (wid u).1 (wid u).2 n = some ((wid (u * n)).1,(wid (u * n)).2,true):=by
 have hm:=qdW h0 hu
 obtain ⟨a1,a2,a3⟩:=qSb hm n0 n1 (by rw [qq9]; exact hlt)
 rw [qDP,qmr]
 have hl:=qzZ hm (x5:=0) (x6:=0) 64 n (0,0) true 0 (by omega) (by omega) n0 n1 qlx
 have e:(qb3 (wid u) 64 (n,(0,0),true)).2.1 = wid (u * n):=qPI a1 (qdW (Int.mul_nonneg h0 n0) hlt) (by rw [a2,qq9,qq9])
 rw [hl]
 simp only [pj_some,if_true,ev_bi_some,ev_at,e,a3]
theorem qzM {a b:Int} (ha:i64 a) (hb:i64 b):qou a b = some (wid (a * b)):=by
 have ha':=ha
 have hb':=hb
 obtain ⟨a0,a1⟩:=ha'
 obtain ⟨b0,b1⟩:=hb'
 have hp0:0 <= (a.natAbs:Int) * b.natAbs:=Int.mul_nonneg (by omega) (by omega)
 have hp1:(a.natAbs:Int) * b.natAbs <= 9223372036854775808 * 9223372036854775808:=Int.mul_le_mul (by omega) (by omega) (by omega) (by omega)
 rw [qEk,qmX,qaw ha,ev_bi_some,qDL,qmo,qcB (by simp only [inW]; omega)]
 simp only [ev_bi_some,qzC hb,qyX (show (0:Int) <= a.natAbs by omega) (by omega) (show (0:Int) <= b.natAbs by omega) (by omega) (show (a.natAbs:Int) * b.natAbs < 340282366920938463463374607431768211456 by omega)]
 rw [qbY hp0 (by omega)]
 have hv:(if (if true = true then !decide (a < 0) == decide (b < 0) else decide (a < 0) == decide (b < 0)) = true then -((a.natAbs:Int) * b.natAbs) else (a.natAbs:Int) * b.natAbs) = a * b:=by
  have e:(a * b).natAbs = a.natAbs * b.natAbs:=Int.natAbs_mul a b
  by_cases c:a < 0 <;> by_cases d:b < 0
  ·rw [decide_eq_true c,decide_eq_true d,show (a.natAbs:Int) = -a by omega,show (b.natAbs:Int) = -b by omega,Int.neg_mul_neg]; rfl
  ·rw [decide_eq_true c,decide_eq_false d,show (a.natAbs:Int) = -a by omega,show (b.natAbs:Int) = b by omega,Int.neg_mul,Int.neg_neg]; rfl
  ·rw [decide_eq_false c,decide_eq_true d,show (a.natAbs:Int) = a by omega,show (b.natAbs:Int) = -b by omega,Int.mul_neg,Int.neg_neg]; rfl
  ·rw [decide_eq_false c,decide_eq_false d,show (a.natAbs:Int) = a by omega,show (b.natAbs:Int) = b by omega]; rfl
 simp only [if_true] at hv ⊢
 rw [hv]
 rfl
theorem qrh {u n:Int} (h0:0 <= u) (hu:u < 340282366920938463463374607431768211456) (n0:0 < n) (n1:n < 9223372036854775808):qwn (wid u).1 (wid u).2 n = some ((wid (u / n)).1,(wid (u / n)).2,u % n):=by
 have hm:=qdW h0 hu
 obtain ⟨a1,a2,a3⟩:=qZ0 n0 n1 hm
 rw [qq9] at a2 a3
 have hq0:=Int.ediv_nonneg h0 (show 0 <= n by omega)
 have hq1:=Int.ediv_le_self n h0
 have e:(qbs n 128 (wid u,(0,0),0)).2.1 = wid (u / n):=qPI a1 (qdW hq0 (by omega)) (by rw [a2,qq9])
 rw [qJQ,qvr]
 have hl:=qEY n0 n1 (x5:=0) (x6:=0) 128 (wid u) (0,0) 0 0 (by omega) (by omega) hm qlx (by omega) n0
 rw [hl]
 simp only [pj_some,if_true,ev_bi_some,ev_at,e,a3]
theorem qfG {a:Int}:qh5 (wid a).1 (wid a).2 = some (if i64 a then (a,true) else (0,false)):=by
 rw [qEj,qmW]
 have hi:i64 (IntKind.i64.wrap (wid a).2):=by simp only [qjr,i64]; omega
 rw [qaw hi]
 simp only [ev_bi_some,ev_br,ev_at,Bool.and_true,Bool.false_eq_true,if_false]
 by_cases h:i64 a
 ·have e:IntKind.i64.wrap (wid a).2 = a:=by simp only [qjr,wid,i64] at h ⊢; omega
  rw [if_pos h,e]
  simp
 ·have e:¬ ((wid (IntKind.i64.wrap (wid a).2)).1 = (wid a).1):=by simp only [qjr,wid,i64] at h ⊢; omega
  rw [if_neg h,beq_eq_false_iff_ne.2 e]
  rfl
theorem qzL {v n:Int} (hv:inH v) (h1:0 < n) (h2:n < 9223372036854775808):qot (wid v).1 (wid v).2 n = some ((wid (v / n)).1,(wid (v / n)).2,v % n,0):=by
 have hw:=qsc hv
 simp only [inH] at hv
 have e1:decide (n < 1) = false:=decide_eq_false (by omega)
 have e2:IntKind.u64.wrap n = n:=by rw [w64]; omega
 rw [qEi,qmV,e1,e2,ev_br,cond_false,qcB hw,ev_bi_some]
 obtain ⟨U,hU⟩:∃ U:Int,U = v.natAbs:=⟨_,rfl⟩
 simp only [<- hU] at hv ⊢
 have h0:0 <= U:=by omega
 rw [qrh h0 (by omega) h1 h2,ev_bi_some]
 have q0:=Int.ediv_nonneg h0 (show 0 <= n by omega)
 have q1:=Int.ediv_le_self n h0
 have r0:=Int.emod_nonneg U (show n ≠ 0 by omega)
 have r1:=Int.emod_lt_of_pos U h1
 have m1:=Int.mul_ediv_add_emod U n
 by_cases c:v < 0
 ·have hv':v = -U:=by omega
  rw [decide_eq_true c]
  by_cases d:U % n > 0
  ·have k1:v / n = -(U / n + 1) /\ v % n = n - U % n:=by
    have:v = n - U % n + n * (-(U / n + 1)):=by rw [Int.mul_neg,Int.mul_add]; omega
    rw [this]
    refine ⟨?_,?_⟩
    ·rw [Int.add_mul_ediv_left _ _ (by omega),Int.ediv_eq_zero_of_lt (by omega) (by omega)]; omega
    ·rw [Int.add_mul_emod_self_left,Int.emod_eq_of_lt (by omega) (by omega)]
   have w1:IntKind.i64.wrap (IntKind.u64.wrap (n - U % n)) = n - U % n:=by rw [w64,qjr]; omega
   have hp:=qdO (a:=wid (U / n)) (b:=wid 1) (qdW q0 (by omega)) (qdW (by omega) (by omega))
   rw [qCE q0 (by omega) (by omega) (by omega),show (wid 1).1 = 0 from rfl,show (wid 1).2 = 1 from rfl] at hp
   simp only [decide_eq_true d,br_eq,cond_true,ev_bi_some,ev_br,hp,qbY (s:=true) (show 0 <= U / n + 1 by omega) (by omega),ev_at,w1,k1,if_true]
  ·have hr:U % n = 0:=by omega
   have k1:v / n = -(U / n) /\ v % n = 0:=by
    have:v = n * (-(U / n)):=by rw [Int.mul_neg]; omega
    rw [this]
    exact ⟨Int.mul_ediv_cancel_left _ (by omega),Int.mul_emod_right _ _⟩
   simp only [decide_eq_false d,br_eq,cond_true,cond_false,ev_bi_some,ev_br,qbY (s:=true) q0 (show U / n < 170141183460469231731687303715884105728 by omega),ev_at,hr,k1,if_true]
   rfl
 ·have hv':v = U:=by omega
  rw [decide_eq_false c]
  have w1:IntKind.i64.wrap (U % n) = U % n:=by rw [qjr]; omega
  simp only [br_eq,cond_false,ev_bi_some,ev_br,qbY (s:=false) q0 (show U / n < 170141183460469231731687303715884105728 by omega),ev_at,hv',w1]
  rfl
theorem q3G {q:Int}:((wid q).2.tmod 2 == 1) = decide (q % 2 = 1):=by
 rw [Int.tmod_eq_emod_of_nonneg (by simp only [wid]; omega)]
 by_cases h:q % 2 = 1
 ·rw [decide_eq_true h,show ((wid q).2 % 2 == 1) = true by rw [beq_iff_eq]; simp only [wid]; omega]
 ·rw [decide_eq_false h,show ((wid q).2 % 2 == 1) = false by rw [beq_eq_false_iff_ne]; simp only [wid]; omega]
theorem qJY {s o:Bool} {r n:Int} (h0:0 <= r) (h1:r < n) (h2:n < 9223372036854775808):qgp s o r n 6 = some (if r = n - r then o else decide (r > n - r)):=by
 rw [qrO,qjo]
 have e1:IntKind.i64.wrap (n - r) = n - r:=by rw [qjr]; omega
 rw [e1]
 simp only [ev_br,ev_at,show ((6:Int) == 1) = false from rfl,show ((6:Int) == 2) = false from rfl,show ((6:Int) == 3) = false from rfl,show ((6:Int) == 4) = false from rfl,show ((6:Int) == 5) = false from rfl,cond_false]
 by_cases c:r = n - r
 ·rw [if_pos c,show (r != n - r) = false by rw [bne_eq_false_iff_eq]; exact c]; rfl
 ·rw [if_neg c,show (r != n - r) = true by rw [bne_iff_ne]; exact c]; rfl
theorem qJX {s o:Bool} {r n:Int}:qgp s o r n 1 = some s:=by rw [qrO,qjo]; rfl
theorem q7q {v n:Int} (hv:inH v) (hn:0 < n):-85070591730234615865843651857942052864 <= v / n /\ v / n < 85070591730234615865843651857942052864:=by
 simp only [inH] at hv
 have t0:=Int.emod_nonneg v (show n ≠ 0 by omega)
 have t1:=Int.emod_lt_of_pos v hn
 have m1:=Int.mul_ediv_add_emod v n
 refine ⟨?_,?_⟩
 ·rcases Int.lt_or_le (v / n) (-85070591730234615865843651857942052864) with h | h
  ·have:=Int.mul_le_mul_of_nonneg_right (show (1:Int) <= n by omega) (show 0 <= -(v / n) - 1 by omega)
   rw [Int.one_mul,Int.mul_sub,Int.mul_neg,Int.mul_one] at this
   omega
  ·exact h
 ·rcases Int.lt_or_le (v / n) 85070591730234615865843651857942052864 with h | h
  ·exact h
  ·have:=Int.mul_le_mul_of_nonneg_right (show (1:Int) <= n by omega) (show 0 <= v / n by omega)
   rw [Int.one_mul] at this
   omega
theorem qZJ {v n:Int} (hv:inH v) (hn:0 < n):inH (v / n):=by
 have hv':=hv
 simp only [inH] at hv'
 have t0:=Int.emod_nonneg v (show n ≠ 0 by omega)
 have t1:=Int.emod_lt_of_pos v hn
 have m1:=Int.mul_ediv_add_emod v n
 have h2:=(q7q hv hn).2
 have h1:-85070591730234615865843651857942052863 <= v / n:=by
  rcases Int.lt_or_le (v / n) (-85070591730234615865843651857942052863) with h | h
  ·have:=Int.mul_le_mul_of_nonneg_right (show (1:Int) <= n by omega) (show 0 <= -(v / n) - 1 by omega)
   rw [Int.one_mul,Int.mul_sub,Int.mul_neg,Int.mul_one] at this
   omega
  ·exact h
 simp only [inH]
 omega
theorem qvY {v n mode w:Int} {u:Bool} (hv:inH v) (hn:0 < n) (hn2:n < 9223372036854775808) (hmode:qgo mode = some true)
  (hu:v % n > 0 -> qgp (decide ((wid v).1 < 0)) ((wid (v / n)).2.tmod 2 == 1) (v % n) n mode = some u) (hw:w = if v % n > 0 /\ u = true then v / n + 1 else v / n) :
  qdK (wid v).1 (wid v).2 n mode = some (if i64 w then (w,0) else (0,6)):=by
 rw [qDs,ql5,hmode,decide_eq_false (show ¬ n < 1 by omega)]
 simp only [br_eq,cond_false,sm_some,gv_some,cond_true,Bool.not_true,ev_bi_some,ev_br,qzL hv hn hn2]
 by_cases c:v % n > 0
 ·rw [decide_eq_true c,cond_true,hu c]
  simp only [sm_some,gv_some,cond_true,ev_bi_some,ev_br]
  cases u
  ·have hw':w = v / n:=by rw [hw,if_neg (show ¬ (v % n > 0 /\ false = true) by simp)]
   rw [cond_false,qfG,ev_bi_some,hw']
   by_cases k:i64 (v / n)
   ·rw [if_pos k,if_pos k]; rfl
   ·rw [if_neg k,if_neg k]; rfl
  ·have hw':w = v / n + 1:=by rw [hw,if_pos ⟨c,rfl⟩]
   rw [cond_true,qaw (n:=1) ⟨by omega,by omega⟩,ev_bi_some,qos (a:=v / n) (b:=1) (qZJ hv hn) (by simp only [inH]; omega),ev_bi_some,qfG,ev_bi_some,hw']
   by_cases k:i64 (v / n + 1)
   ·rw [if_pos k,if_pos k]; rfl
   ·rw [if_neg k,if_neg k]; rfl
 ·have hw':w = v / n:=by rw [hw,if_neg (fun h=>c h.1)]
  rw [decide_eq_false c,cond_false,ev_bi_some,ev_br,cond_false,qfG,ev_bi_some,hw']
  by_cases k:i64 (v / n)
  ·rw [if_pos k,if_pos k]; rfl
  ·rw [if_neg k,if_neg k]; rfl
theorem q4F:qgo 6 = some true:=by rw [qrL,qjl]; rfl
theorem q4E:qgo 1 = some true:=by rw [qrL,qjl]; rfl
theorem qjD {v n:Int} (hv:inH v) (hn:0 < n) (hn2:n < 9223372036854775808):qdK (wid v).1 (wid v).2 n 6 = some (if i64 (qpU v n) then (qpU v n,0) else (0,6)):=by
 have t0:=Int.emod_nonneg v (show n ≠ 0 by omega)
 have t1:=Int.emod_lt_of_pos v hn
 refine qvY hv hn hn2 q4F (fun _=>qJY t0 t1 hn2) ?_
 rw [q3G]
 unfold qpU
 by_cases h1:v % n = n - v % n
 ·rw [if_pos h1]
  by_cases h2:v / n % 2 = 1
  ·rw [if_pos (.inr ⟨h1,h2⟩),if_pos ⟨by omega,decide_eq_true h2⟩]
  ·rw [if_neg (by omega),if_neg (fun h=>h2 (of_decide_eq_true h.2))]
 ·rw [if_neg h1]
  by_cases h2:v % n > n - v % n
  ·rw [if_pos (.inl h2),if_pos ⟨by omega,decide_eq_true h2⟩]
  ·rw [if_neg (by omega),if_neg (fun h=>h2 (of_decide_eq_true h.2))]
theorem qrH {v n:Int} (hv:inH v) (hn:0 < n) (hn2:n < 9223372036854775808):qdK (wid v).1 (wid v).2 n 1 = some (if i64 (v.tdiv n) then (v.tdiv n,0) else (0,6)):=by
 have hw:=qsc hv
 simp only [inW] at hw
 refine qvY hv hn hn2 q4E (fun _=>qJX) ?_
 rw [qFE hn]
 by_cases h:0 < v % n /\ v < 0
 ·rw [if_pos h,if_pos ⟨h.1,decide_eq_true (by have:=h.2; simp only [wid]; omega)⟩]
 ·rw [if_neg h,if_neg]
  rintro ⟨h1,h2⟩
  have h2':=of_decide_eq_true h2
  exact h ⟨h1,by simp only [wid] at h2'; omega⟩
end Go.Proofs.H15p
