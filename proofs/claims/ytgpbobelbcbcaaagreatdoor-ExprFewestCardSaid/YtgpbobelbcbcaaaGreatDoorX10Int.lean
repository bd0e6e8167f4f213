/- Numbers as texts: what the document's functions come to. -/
import Derived.Test.YtgpbobelbcbcaaaGreatDoorX10Par
import Derived.Test.YtgpbobelbcbcaaaGreatDoorX10Ref
import Derived.Test.YtgpbobelbcbcaaaGreatDoorTkF
import Derived.Test.YtgpbobelbcbcaaaGreatDoorPsE
set_option linter.unusedVariables false
set_option linter.unusedSimpArgs false
set_option linter.unnecessarySimpa false
namespace Go.Proofs.H10
open Go Go.Eng Go.Tk
set_option maxRecDepth 20000
theorem pj0 {τ:Type} {o:Option (Nat × τ)} {w:τ} (h:o = some (1,w)):pj 0 o = none:=by rw [h]; rfl
theorem pj1 {τ:Type} {o:Option (Nat × τ)} {w:τ} (h:o = some (1,w)):pj 1 o = some w:=by rw [h]; rfl
theorem qSw {τ:Type} {o:Option (Nat × τ)} {w:τ} (h:o = some (0,w)):pj 0 o = some w:=by rw [h]; rfl
theorem qwg {d:Nat} (h:d < 10):List.take (d + 1 - d) (List.drop d ([48,49,50,51,52,53,54,55,56,57]:List UInt8)) = [UInt8.ofNat (48 + d)]:=by
 have:∀ i:Fin 10,List.take (i.val + 1 - i.val) (List.drop i.val ([48,49,50,51,52,53,54,55,56,57]:List UInt8)) = [UInt8.ofNat (48 + i.val)]:=by decide
 exact this ⟨d,h⟩
theorem qk8 (n:Nat):Lib.decDigits n = (if n < 10 then [] else Lib.decDigits (n / 10)) ++ [UInt8.ofNat (48 + n % 10)]:=by
 rw [Lib.decDigits]
 by_cases h:n < 10
 ·rw [dif_pos h,if_pos h,Nat.mod_eq_of_lt h]; rfl
 ·rw [dif_neg h,if_neg h]
theorem qup:∀ (n:Nat),n <= 9223372036854775808 -> ∀ (a:Bs),a.length + (Lib.decDigits n).length <= 1000 -> (a = [] \/ 0 < n) -> qyF ((n:Int),a) = some (0,0,Lib.decDigits n ++ a):=by
 intro n
 induction n using Nat.strongRecOn with
 | ind n ih=>
  intro hn a ha hz
  have wu:∀ x:Int,0 <= x -> x < 18446744073709551616 -> IntKind.u64.wrap x = x:=by
   intro x h0 h1
   simp only [IntKind.wrap,IntKind.bits,IntKind.signed]
   simp
   omega
  have hm:((n:Int)).tmod 10 = ((n % 10:Nat):Int):=rfl
  have hd:((n:Int)).tdiv 10 = ((n / 10:Nat):Int):=rfl
  have w1:IntKind.u64.wrap (((n:Int)).tmod 10 + 1) = ((n % 10 + 1:Nat):Int):=by rw [hm,wu _ (by omega) (by omega)]; rfl
  have w2:IntKind.u64.wrap (((n:Int)).tdiv 10) = ((n / 10:Nat):Int):=by rw [hd,wu _ (by omega) (by omega)]
  have hpiece:List.take ((IntKind.u64.wrap (((n:Int)).tmod 10 + 1)).toNat - (((n:Int)).tmod 10).toNat) (List.drop (((n:Int)).tmod 10).toNat ([48,49,50,51,52,53,54,55,56,57]:List UInt8)) = [UInt8.ofNat (48 + n % 10)]:=by
   rw [w1,hm]
   exact qwg (by omega)
  have hcond:br (a == []) (some true) (some (decide ((n:Int) > 0))) = some true:=by
   rcases hz with rfl | hz
   ·rfl
   ·cases (a == [])
    ·show some (decide ((n:Int) > 0)) = _
     rw [decide_eq_true (by omega)]
    ·rfl
  have hstep:(qrT ((n:Int),a)).ev = some (.next (((n / 10:Nat):Int),UInt8.ofNat (48 + n % 10) :: a)):=by
   show (qhn (n:Int) a).ev = _
   rw [qhn,hpiece]
   refine (biS hcond).trans ((brT rfl).trans ((brT ?_).trans ((brT ?_).trans ?_)))
   ·rw [w1,hm]
    simp only [leB,Bool.and_eq_true,decide_eq_true_eq]; omega
   ·refine decide_eq_true ?_
    simp only [List.length_cons,List.length_nil]; omega
   ·rw [w2]; rfl
  rw [qi5,qau hstep,<- qi5]
  by_cases h10:n < 10
  ·have e0:n / 10 = 0:=by omega
   rw [e0,qi5]
   refine (qaj (j:=0) ?_).trans ?_
   ·show (qhn ((0:Nat):Int) (UInt8.ofNat (48 + n % 10) :: a)).ev = _
    rw [qhn]
    exact (biS (v:=false) (by rfl)).trans ((brF rfl).trans rfl)
   ·rw [qk8 n,if_pos h10]; rfl
  ·have e1:=qk8 n
   rw [if_neg h10] at e1
   rw [ih (n / 10) (by omega) (by omega) _ (by
    rw [e1] at ha
    simp only [List.length_cons,List.length_append,List.length_nil] at ha ⊢
    omega) (.inr (by omega)),e1]
   simp
theorem qqU:∀ (k n:Nat),n < 10 ^ (k + 1) -> (Lib.decDigits n).length <= k + 1
 | 0,n,h=>by
  rw [qk8,if_pos (by simpa using h)]; simp
 | k + 1,n,h=>by
  rw [qk8]
  by_cases h1:n < 10
  ·rw [if_pos h1]; simp
  ·rw [if_neg h1]
   have:=qqU k (n / 10) (Nat.div_lt_of_lt_mul (by rw [Nat.pow_succ] at h; omega))
   simp only [List.length_append,List.length_cons,List.length_nil]; omega
theorem qwo {n:Nat} (h:n <= 9223372036854775807):qjS (n:Int) = some (Lib.decDigits n):=by
 rw [qz2,qlg]
 have hl:(Lib.decDigits n).length <= 20:=qqU 19 n (Nat.lt_of_le_of_lt h (by decide))
 refine (biS (qSw (qup n (by omega) [] (by simp only [List.length_nil]; omega) (.inl rfl)))).trans ?_
 show some (Lib.decDigits n ++ []) = _
 rw [List.append_nil]
theorem qmO {n:Int} (h0:0 <= n) (h1:n <= 9223372036854775807):qjV n = some (Lib.itoa n):=by
 obtain ⟨m,rfl⟩:∃ m:Nat,n = m:=⟨n.toNat,by omega⟩
 have wu:IntKind.u64.wrap (m:Int) = (m:Int):=by
  simp only [IntKind.wrap,IntKind.bits,IntKind.signed]
  simp
  omega
 rw [qAB,qlS,qi1 h0]
 refine (brT (decide_eq_true h0)).trans ?_
 rw [wu]
 exact (biS (qwo (by omega))).trans rfl
end Go.Proofs.H10
