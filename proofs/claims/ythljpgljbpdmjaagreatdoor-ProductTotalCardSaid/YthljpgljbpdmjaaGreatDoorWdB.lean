/- Words: bits as numbers; wide numbers by their value. -/
import Derived.Test.YthljpgljbpdmjaaGreatDoorWdA
set_option linter.unusedVariables false
set_option linter.unusedSimpArgs false
set_option linter.unnecessarySimpa false
namespace Go.Tk
open Go Go.Eng
set_option maxRecDepth 20000
theorem w64 (n:Int):IntKind.u64.wrap n = n % 18446744073709551616:=IntKind.wrap_u64 n
theorem qjr (n:Int):IntKind.i64.wrap n = (n + 9223372036854775808) % 18446744073709551616 - 9223372036854775808:=by
 simp only [IntKind.wrap,IntKind.signed,IntKind.bits]
 simp
 omega
theorem qns {x:Int}:((BitVec.ofInt 64 x).toNat:Int) = x % 18446744073709551616:=by
 rw [BitVec.toNat_ofInt]
 have:(2:Int) ^ 64 = 18446744073709551616:=by decide
 omega
theorem qIH {x:Int} (h0:0 <= x) (h1:x < 18446744073709551616):IntKind.u64.wrap ((BitVec.ofInt 64 x &&& BitVec.ofInt 64 9223372036854775808).toNat:Int) = if 9223372036854775808 <= x then 9223372036854775808 else 0:=by
 have h:BitVec.ofInt 64 9223372036854775808 = BitVec.twoPow 64 63:=by decide
 have e:=qns (x:=x)
 rw [h,BitVec.and_twoPow,w64]
 have h2:(BitVec.ofInt 64 x).getLsbD 63 = decide (9223372036854775808 <= x):=by
  show (BitVec.ofInt 64 x).toNat.testBit 63 = _
  rw [Nat.testBit_eq_decide_div_mod_eq]
  congr 1
  apply propext
  have:(2:Nat) ^ 63 = 9223372036854775808:=by decide
  rw [this]
  omega
 rw [h2]
 by_cases c:9223372036854775808 <= x
 ·rw [if_pos c,decide_eq_true c]; decide
 ·rw [if_neg c,decide_eq_false c]; decide
theorem and_one {x:Int} (h0:0 <= x) (h1:x < 18446744073709551616):IntKind.u64.wrap ((BitVec.ofInt 64 x &&& BitVec.ofInt 64 1).toNat:Int) = x % 2:=by
 have h:(BitVec.ofInt 64 1).toNat = 1:=by decide
 have e:=qns (x:=x)
 rw [BitVec.toNat_and,h,Nat.and_one_is_mod,w64]
 omega
theorem qXx {x:Int} (h0:0 <= x) (h1:x < 18446744073709551616):IntKind.u64.wrap ((BitVec.ofInt 64 x &&& BitVec.ofInt 64 4294967295).toNat:Int) = x % 4294967296:=by
 have h:(BitVec.ofInt 64 4294967295).toNat = 2 ^ 32 - 1:=by decide
 have e:=qns (x:=x)
 rw [BitVec.toNat_and,h,Nat.and_two_pow_sub_one_eq_mod,w64]
 have:(2:Nat) ^ 32 = 4294967296:=by decide
 omega
theorem q3L {x y:Int} (h0:0 <= x) (h1:x < 1048576) (h2:0 <= y) (h3:y < 17592186044416):IntKind.u64.wrap ((BitVec.ofInt 64 (x * 17592186044416) ||| BitVec.ofInt 64 y).toNat:Int) = x * 17592186044416 + y:=by
 have e1:=qns (x:=x * 17592186044416)
 have e2:=qns (x:=y)
 have k:(2:Nat) ^ 44 = 17592186044416:=by decide
 have e3:(BitVec.ofInt 64 (x * 17592186044416)).toNat = 2 ^ 44 * x.toNat:=by rw [k]; omega
 rw [BitVec.toNat_or,e3,<- Nat.two_pow_add_eq_or_of_lt (by rw [k]; omega),w64,k]
 omega
def wid (v:Int):Mg:=(v / 18446744073709551616,v % 18446744073709551616)
theorem qq9 (v:Int):vM (wid v) = v:=by simp only [vM,wid]; omega
def inW (v:Int):Prop:=-170141183460469231731687303715884105728 <= v /\ v < 170141183460469231731687303715884105728
theorem qdW {v:Int} (h0:0 <= v) (h1:v < 340282366920938463463374607431768211456):okM (wid v):=by simp only [okM,wid]; omega
theorem qFE {v n:Int} (hn:0 < n):v.tdiv n = if 0 < v % n /\ v < 0 then v / n + 1 else v / n:=by
 rw [Int.tdiv_eq_ediv,Int.sign_eq_one_of_pos hn]
 have m:=Int.emod_nonneg v (show n ≠ 0 by omega)
 by_cases h:0 <= v \/ n ∣ v
 ·rw [if_pos h,if_neg]
  ·omega
  ·rintro ⟨h1,h2⟩
   rcases h with h | h
   ·omega
   ·have:=Int.emod_eq_zero_of_dvd h; omega
 ·rw [if_neg h,if_pos]
  have h2:v % n ≠ 0:=fun e=>h (.inr (Int.dvd_of_emod_eq_zero e))
  exact ⟨by omega,by omega⟩
theorem qyS {hi lo:Int} (h0:0 <= hi) (h1:hi < 1000000) (h2:0 <= lo) (h3:lo < 18446744073709551616) {n q1 u q0:Int}
  (hn:n = hi * 17592186044416 + lo / 1048576) (hq1:q1 = n / 4096000000) (hu:u = (n - q1 * 4096000000) * 4294967296 + lo % 1048576 * 4096) (hq0:q0 = u / 4096000000) :
  0 <= q1 /\ q1 < 4294967296 /\ 0 <= q0 /\ q0 < 4294967296 /\ 0 <= u /\ u < 17592186044416000000 /\ q1 * 4294967296 + q0 = (hi * 18446744073709551616 + lo) / 1000000 /\ (u - q0 * 4096000000) / 4096 = (hi * 18446744073709551616 + lo) % 1000000:=by
 obtain ⟨r,hr⟩:∃ r,r = lo % 1048576:=⟨_,rfl⟩
 obtain ⟨r1,hr1⟩:∃ r1,r1 = n - q1 * 4096000000:=⟨_,rfl⟩
 have e1:hi * 18446744073709551616 + lo = n * 1048576 + r:=by omega
 have b1:0 <= r1 /\ r1 < 4096000000:=by omega
 have b2:0 <= r /\ r < 1048576:=by omega
 have e2:u = 4096 * (r1 * 1048576 + r):=by omega
 have e3:q0 = (r1 * 1048576 + r) / 1000000:=by omega
 have e4:hi * 18446744073709551616 + lo = q1 * 4294967296 * 1000000 + (r1 * 1048576 + r):=by omega
 have n0:0 <= n /\ n < 17592186044416000000:=by omega
 refine ⟨by omega,by omega,by omega,by omega,by omega,by omega,?_,?_⟩
 ·rw [e4]; omega
 ·rw [e4]; omega
end Go.Tk
