/- Numbers of 128 bits over plain data: magnitudes (pairs of words), the reference's rounds. -/
import Derived.Test.YthljpgljbpdmjaaGreatDoorEvA
set_option linter.unusedVariables false
set_option linter.unusedSimpArgs false
set_option linter.unnecessarySimpa false
namespace Go.Tk
open Go Go.Eng
set_option maxRecDepth 20000
abbrev Mg:=Int × Int
def okM (a:Mg):Prop:=0 <= a.1 /\ a.1 < 18446744073709551616 /\ 0 <= a.2 /\ a.2 < 18446744073709551616
def vM (a:Mg):Int:=a.1 * 18446744073709551616 + a.2
def qbm (a b:Mg):Mg × Bool:=
 let l:=(a.2 + b.2) % 18446744073709551616
 let c:Int:=if l < a.2 then 1 else 0
 let h:=(a.1 + b.1) % 18446744073709551616
 let g:=(h + c) % 18446744073709551616
 ((g,l),decide (a.1 <= h) && decide (c <= g))
theorem qlx:okM (0,0):=by simp [okM]
theorem qPI {a b:Mg} (ha:okM a) (hb:okM b) (h:vM a = vM b):a = b:=by
 obtain ⟨a1,a2⟩:=a
 obtain ⟨b1,b2⟩:=b
 simp only [okM,vM] at *
 have h1:a1 = b1:=by omega
 have h2:a2 = b2:=by omega
 rw [h1,h2]
theorem qeV {a:Mg} (ha:okM a):0 <= vM a:=by simp only [okM,vM] at *; omega
theorem q9M {a:Mg} (ha:okM a):vM a < 340282366920938463463374607431768211456:=by simp only [okM,vM] at *; omega
theorem qkf {a b:Mg} (ha:okM a) (hb:okM b):okM (qbm a b).1 /\ vM (qbm a b).1 = (vM a + vM b) % 340282366920938463463374607431768211456 /\ (qbm a b).2 = decide (vM a + vM b < 340282366920938463463374607431768211456):=by
 obtain ⟨a1,a2⟩:=a
 obtain ⟨b1,b2⟩:=b
 simp only [okM,vM,qbm] at *
 refine ⟨by omega,?_,?_⟩
 ·split <;> omega
 ·rw [<- Bool.decide_and]
  congr 1
  split <;> (apply propext; omega)
theorem qiX {a b:Mg} (ha:okM a) (hb:okM b) (h:vM a + vM b < 340282366920938463463374607431768211456):okM (qbm a b).1 /\ vM (qbm a b).1 = vM a + vM b /\ (qbm a b).2 = true:=by
 obtain ⟨h1,h2,h3⟩:=qkf ha hb
 have:=qeV ha
 have:=qeV hb
 exact ⟨h1,by omega,by rw [h3]; simp [h]⟩
def qde (m:Mg) (s:Int × Mg × Bool):Int × Mg × Bool:=
 let o:=qbm s.2.1 s.2.1
 ((s.1 * 2) % 18446744073709551616,if 9223372036854775808 <= s.1 then (qbm o.1 m).1 else o.1,if 9223372036854775808 <= s.1 then s.2.2 && o.2 && (qbm o.1 m).2 else s.2.2 && o.2)
def qb3 (m:Mg):Nat -> Int × Mg × Bool -> Int × Mg × Bool
 | 0,s=>s
 | r + 1,s=>qb3 m r (qde m s)
theorem qur {m:Mg} (hm:okM m):∀ (r:Nat) (P Q c:Int) (o:Mg),P = 2 ^ r -> P * Q = 18446744073709551616 -> 0 <= c -> c < P -> okM o -> vM o * P + vM m * c < 340282366920938463463374607431768211456 ->
  okM (qb3 m r (c * Q,o,true)).2.1 /\ vM (qb3 m r (c * Q,o,true)).2.1 = vM o * P + vM m * c /\ (qb3 m r (c * Q,o,true)).2.2 = true
 | 0,P,Q,c,o,hP,hPQ,c0,c1,ho,hlt=>by
  have hP':P = 1:=by simpa using hP
  subst hP'
  have:c = 0:=by omega
  subst this
  simp only [qb3]
  exact ⟨ho,by simp,trivial⟩
 | r + 1,P,Q,c,o,hP,hPQ,c0,c1,ho,hlt=>by
  obtain ⟨R,hR⟩:∃ R:Int,R = 2 ^ r:=⟨_,rfl⟩
  have hPR:P = 2 * R:=by rw [hP,hR,Int.pow_succ,Int.mul_comm]
  have hR1:1 <= R:=by rw [hR]; exact Int.pow_pos (by decide)
  have hQ0:0 < Q:=by
   rcases Int.lt_or_le 0 Q with h | h
   ·exact h
   ·have:=Int.mul_nonneg (show (0:Int) <= P by omega) (show (0:Int) <= -Q by omega)
    rw [Int.mul_neg] at this; omega
  have hRQ:R * Q = 9223372036854775808:=by
   rw [hPR,Int.mul_assoc] at hPQ; omega
  have hRQ2:R * (Q * 2) = 18446744073709551616:=by rw [<- Int.mul_assoc,hRQ]; rfl
  have hm0:=qeV hm
  have ho0:=qeV ho
  have hoP:vM o * P = (2 * vM o) * R:=by rw [hPR,<- Int.mul_assoc,Int.mul_comm (vM o) 2]
  have hmc:0 <= vM m * c:=Int.mul_nonneg hm0 c0
  have h2o:2 * vM o <= (2 * vM o) * R:=by
   have:=Int.mul_le_mul_of_nonneg_left hR1 (show (0:Int) <= 2 * vM o by omega)
   simpa using this
  obtain ⟨p1,p2,p3⟩:=qiX ho ho (by omega)
  by_cases hb:R <= c
  ·have hcq:R * Q <= c * Q:=Int.mul_le_mul_of_nonneg_right hb (by omega)
   have hcq2:c * Q < P * Q:=Int.mul_lt_mul_of_pos_right c1 hQ0
   have hcm:vM m * c = vM m * (c - R) + vM m * R:=by rw [Int.mul_sub]; omega
   have hsum:(2 * vM o + vM m) * R + vM m * (c - R) = vM o * P + vM m * c:=by rw [hoP,hcm,Int.add_mul]; omega
   have hmc':0 <= vM m * (c - R):=Int.mul_nonneg hm0 (by omega)
   have h3:2 * vM o + vM m <= (2 * vM o + vM m) * R:=by
    have:=Int.mul_le_mul_of_nonneg_left hR1 (show (0:Int) <= 2 * vM o + vM m by omega)
    simpa using this
   obtain ⟨q1,q2,q3⟩:=qiX p1 hm (by omega)
   have hn:(c * Q * 2) % 18446744073709551616 = (c - R) * (Q * 2):=by
    rw [Int.sub_mul,hRQ2,<- Int.mul_assoc]; omega
   have hs:qde m (c * Q,o,true) = ((c - R) * (Q * 2),(qbm (qbm o o).1 m).1,true):=by
    simp only [qde]
    rw [if_pos (by omega),if_pos (by omega),hn,p3,q3]
    rfl
   simp only [qb3]
   rw [hs]
   have:=qur hm r R (Q * 2) (c - R) (qbm (qbm o o).1 m).1 hR hRQ2 (by omega) (by omega) q1 (by rw [q2,p2,show vM o + vM o = 2 * vM o by omega]; omega)
   rw [q2,p2,show vM o + vM o = 2 * vM o by omega,hsum] at this
   exact this
  ·have hcq:c * Q < R * Q:=Int.mul_lt_mul_of_pos_right (by omega) hQ0
   have hcq0:0 <= c * Q:=Int.mul_nonneg c0 (by omega)
   have hn:(c * Q * 2) % 18446744073709551616 = c * (Q * 2):=by
    rw [<- Int.mul_assoc]; omega
   have hs:qde m (c * Q,o,true) = (c * (Q * 2),(qbm o o).1,true):=by
    simp only [qde]
    rw [if_neg (by omega),if_neg (by omega),hn,p3]
    rfl
   simp only [qb3]
   rw [hs]
   have:=qur hm r R (Q * 2) c (qbm o o).1 hR hRQ2 c0 (by omega) p1 (by rw [p2,show vM o + vM o = 2 * vM o by omega]; omega)
   rw [p2,show vM o + vM o = 2 * vM o by omega,<- hoP] at this
   exact this
theorem qSb {m:Mg} (hm:okM m) {n:Int} (h0:0 <= n) (h1:n < 18446744073709551616) (hlt:vM m * n < 340282366920938463463374607431768211456) :
  okM (qb3 m 64 (n,(0,0),true)).2.1 /\ vM (qb3 m 64 (n,(0,0),true)).2.1 = vM m * n /\ (qb3 m 64 (n,(0,0),true)).2.2 = true:=by
 have:=qur hm 64 18446744073709551616 1 n (0,0) (by decide) (by decide) h0 h1 qlx (by simpa [vM] using hlt)
 simpa [vM] using this
def qcp (n:Int) (s:Mg × Mg × Int):Mg × Mg × Int:=
 let t:=if 9223372036854775808 <= s.1.1 then (s.2.2 * 2 % 18446744073709551616 + 1) % 18446744073709551616 else s.2.2 * 2 % 18446744073709551616
 let q:=(qbm s.2.1 s.2.1).1
 ((qbm s.1 s.1).1,if n <= t then (q.1,(q.2 + 1) % 18446744073709551616) else q,if n <= t then (t - n) % 18446744073709551616 else t)
def qbs (n:Int):Nat -> Mg × Mg × Int -> Mg × Mg × Int
 | 0,s=>s
 | r + 1,s=>qbs n r (qcp n s)
theorem quq {n:Int} (hn0:0 < n) (hn:n < 9223372036854775808):∀ (r:Nat) (P Q c:Int) (m q:Mg) (t:Int),P = 2 ^ r -> P * Q = 340282366920938463463374607431768211456 -> 0 <= c -> c < P -> okM m -> vM m = c * Q -> okM q -> 0 <= t -> t < n -> (vM q * n + t) * P + c < 340282366920938463463374607431768211456 ->
  okM (qbs n r (m,q,t)).2.1 /\ vM (qbs n r (m,q,t)).2.1 * n + (qbs n r (m,q,t)).2.2 = (vM q * n + t) * P + c /\ 0 <= (qbs n r (m,q,t)).2.2 /\ (qbs n r (m,q,t)).2.2 < n
 | 0,P,Q,c,m,q,t,hP,hPQ,c0,c1,hm,hmv,hq,t0,t1,hlt=>by
  have hP':P = 1:=by simpa using hP
  subst hP'
  have:c = 0:=by omega
  subst this
  simp only [qbs]
  exact ⟨hq,by omega,t0,t1⟩
 | r + 1,P,Q,c,m,q,t,hP,hPQ,c0,c1,hm,hmv,hq,t0,t1,hlt=>by
  obtain ⟨R,hR⟩:∃ R:Int,R = 2 ^ r:=⟨_,rfl⟩
  have hPR:P = 2 * R:=by rw [hP,hR,Int.pow_succ,Int.mul_comm]
  have hR1:1 <= R:=by rw [hR]; exact Int.pow_pos (by decide)
  have hQ0:0 < Q:=by
   rcases Int.lt_or_le 0 Q with h | h
   ·exact h
   ·have:=Int.mul_nonneg (show (0:Int) <= P by omega) (show (0:Int) <= -Q by omega)
    rw [Int.mul_neg] at this; omega
  have hRQ:R * Q = 170141183460469231731687303715884105728:=by
   rw [hPR,Int.mul_assoc] at hPQ; omega
  have hRQ2:R * (Q * 2) = 340282366920938463463374607431768211456:=by rw [<- Int.mul_assoc,hRQ]; rfl
  have hq0:=qeV hq
  obtain ⟨W,hW⟩:∃ W,W = vM q * n + t:=⟨_,rfl⟩
  have hqn:0 <= vM q * n:=Int.mul_nonneg hq0 (by omega)
  have hqn2:vM q <= vM q * n:=by
   have:=Int.mul_le_mul_of_nonneg_left (show (1:Int) <= n by omega) hq0
   simpa using this
  rw [<- hW] at hlt ⊢
  have hWP:W * P = (2 * W) * R:=by rw [hPR,<- Int.mul_assoc,Int.mul_comm W 2]
  obtain ⟨b,hb,b0,b1,hbc⟩:∃ b:Int,(b = 1 ↔ 9223372036854775808 <= m.1) /\ 0 <= b /\ b <= 1 /\ 0 <= c - b * R /\ c - b * R < R /\ vM m = b * 170141183460469231731687303715884105728 + (c - b * R) * Q:=by
   by_cases h:R <= c
   ·refine ⟨1,?_,by omega,by omega,by omega,by omega,by rw [Int.one_mul,Int.one_mul,Int.sub_mul,hRQ]; omega⟩
    have hcq:R * Q <= c * Q:=Int.mul_le_mul_of_nonneg_right h (by omega)
    simp only [okM,vM] at hm hmv
    omega
   ·refine ⟨0,?_,by omega,by omega,by omega,by omega,by rw [hmv]; simp⟩
    have hcq:c * Q < R * Q:=Int.mul_lt_mul_of_pos_right (by omega) hQ0
    simp only [okM,vM] at hm hmv
    omega
  obtain ⟨e0,e1,e2⟩:=hbc
  have hb':b = 0 \/ b = 1:=by omega
  obtain ⟨m1,m2,_⟩:=qkf hm hm
  have hm2:vM (qbm m m).1 = (c - b * R) * (Q * 2):=by
   have hx:(c - b * R) * Q < R * Q:=Int.mul_lt_mul_of_pos_right e1 hQ0
   have hx0:0 <= (c - b * R) * Q:=Int.mul_nonneg e0 (by omega)
   rw [m2,<- Int.mul_assoc]
   rcases hb' with rfl | rfl <;> omega
  have hW1:(2 * W + b) * R + (c - b * R) = W * P + c:=by rw [hWP,Int.add_mul]; omega
  have hW2:2 * W + b <= (2 * W + b) * R:=by
   have:=Int.mul_le_mul_of_nonneg_left hR1 (show (0:Int) <= 2 * W + b by omega)
   simpa using this
  obtain ⟨q1,q2,_⟩:=qiX hq hq (by omega)
  obtain ⟨u,hu⟩:∃ u,u = 2 * t + b:=⟨_,rfl⟩
  have htu:(if 9223372036854775808 <= m.1 then (t * 2 % 18446744073709551616 + 1) % 18446744073709551616 else t * 2 % 18446744073709551616) = u:=by
   split
   ·have:=hb.2 (by assumption); omega
   ·have:b ≠ 1:=fun h=>absurd (hb.1 h) (by assumption)
    omega
  by_cases hd:n <= u
  ·have hs:qcp n (m,q,t) = ((qbm m m).1,((qbm q q).1.1,((qbm q q).1.2 + 1) % 18446744073709551616),u - n):=by
    simp only [qcp]
    rw [htu,if_pos hd,if_pos hd]
    congr 2
    omega
   obtain ⟨o1,o2⟩:okM ((qbm q q).1.1,((qbm q q).1.2 + 1) % 18446744073709551616) /\ vM ((qbm q q).1.1,((qbm q q).1.2 + 1) % 18446744073709551616) = 2 * vM q + 1:=by
    simp only [okM,vM] at q1 q2 ⊢
    omega
   simp only [qbs]
   rw [hs]
   have hW3:(2 * vM q + 1) * n + (u - n) = 2 * W + b:=by rw [Int.add_mul,Int.mul_assoc]; omega
   have:=quq hn0 hn r R (Q * 2) (c - b * R) (qbm m m).1 _ (u - n) hR hRQ2 e0 e1 m1 hm2 o1 (by omega) (by omega) (by rw [o2,hW3]; omega)
   rw [o2,hW3,hW1] at this
   exact this
  ·have hs:qcp n (m,q,t) = ((qbm m m).1,(qbm q q).1,u):=by
    simp only [qcp]
    rw [htu,if_neg hd,if_neg hd]
   simp only [qbs]
   rw [hs]
   have hW3:(vM q + vM q) * n + u = 2 * W + b:=by rw [Int.add_mul]; omega
   have:=quq hn0 hn r R (Q * 2) (c - b * R) (qbm m m).1 (qbm q q).1 u hR hRQ2 e0 e1 m1 hm2 q1 (by omega) (by omega) (by rw [q2,hW3]; omega)
   rw [q2,hW3,hW1] at this
   exact this
theorem qZ0 {n:Int} (hn0:0 < n) (hn:n < 9223372036854775808) {m:Mg} (hm:okM m) :
  okM (qbs n 128 (m,(0,0),0)).2.1 /\ vM (qbs n 128 (m,(0,0),0)).2.1 = vM m / n /\ (qbs n 128 (m,(0,0),0)).2.2 = vM m % n:=by
 have h1:=q9M hm
 have h0:=qeV hm
 obtain ⟨a1,a2,a3,a4⟩:=quq hn0 hn 128 340282366920938463463374607431768211456 1 (vM m) m (0,0) 0 (by decide) (by decide) h0 h1 hm (by omega) qlx (by omega) (by omega) (by simpa [vM] using h1)
 generalize qbs n 128 (m,(0,0),0) = s at *
 have e:vM s.2.1 * n + s.2.2 = vM m:=by rw [a2]; simp [vM]
 refine ⟨a1,?_,?_⟩
 ·rw [<- e,Int.add_comm,Int.add_mul_ediv_right _ _ (by omega),Int.ediv_eq_zero_of_lt a3 a4]; omega
 ·rw [<- e,Int.add_comm,Int.add_mul_emod_self_right,Int.emod_eq_of_lt a3 a4]
end Go.Tk
