/- The document's ways of joining tokens and of writing percentages are the program's. -/
import Derived.Test.YtgpbobelbcbcaaaGreatDoorD10_1
import Derived.Test.YtgpbobelbcbcaaaGreatDoorD10_2
import Derived.Test.YtgpbobelbcbcaaaGreatDoorD10_3
import Derived.Test.YtgpbobelbcbcaaaGreatDoorD10_4
import Derived.Test.YtgpbobelbcbcaaaGreatDoorD10_5
import Derived.Test.YtgpbobelbcbcaaaGreatDoorD10_6
import Derived.Test.YtgpbobelbcbcaaaGreatDoorD10_7
import Derived.Test.YtgpbobelbcbcaaaGreatDoorD10_8
import Derived.Test.YtgpbobelbcbcaaaGreatDoorD10_9
import Derived.Test.YtgpbobelbcbcaaaGreatDoorX10Tks
import Derived.Test.YtgpbobelbcbcaaaGreatDoorTkF
import Derived.Test.YtgpbobelbcbcaaaGreatDoorJnA
set_option linter.unusedVariables false
set_option linter.unusedSimpArgs false
set_option linter.unnecessarySimpa false
namespace Go.Proofs.H10
open Go Go.Eng Go.Tk
set_option maxRecDepth 20000
theorem qKj:∀ d,d < 10 -> List.take ((d + 1) - d) (List.drop d ([48,49,50,51,52,53,54,55,56,57]:List UInt8)) = [UInt8.ofNat (48 + d)]:=by decide
theorem qdj {m:Nat} (hm:m <= 1000000) {x1:Int} {acc:Bs} (hacc:acc.length <= 1000) (h:0 < m \/ (acc.length:Int) < x1):(qiC ((m:Int),x1,acc)).ev = some (.next (((m / 10:Nat):Int),x1,UInt8.ofNat (48 + m % 10) :: acc)):=by
 have e1:((m:Int).tmod 10) = ((m % 10:Nat):Int):=rfl
 have e2:((m:Int).tdiv 10) = ((m / 10:Nat):Int):=rfl
 have e3:IntKind.i64.wrap (((m % 10:Nat):Int) + 1) = ((m % 10 + 1:Nat):Int):=by rw [wrap64 (by omega) (by omega)]; rfl
 have e4:IntKind.i64.wrap ((m / 10:Nat):Int) = ((m / 10:Nat):Int):=wrap64 (by omega) (by omega)
 have hlt:m % 10 < 10:=Nat.mod_lt _ (by decide)
 have g1:leB ((m % 10 + 1:Nat):Int) 10 = true:=qbA (by omega)
 have g2:leB ((m % 10:Nat):Int) ((m % 10 + 1:Nat):Int).toNat = true:=by rw [Int.toNat_natCast]; exact qbA (by omega)
 have hbr:br (decide ((m:Int) > 0)) (some true) (some (decide ((acc.length:Int) < x1))) = some true:=by
  rcases h with h | h
  ·rw [decide_eq_true (show (m:Int) > 0 by omega)]; rfl
  ·rw [decide_eq_true h]; cases decide ((m:Int) > 0) <;> rfl
 have g3:decide (([UInt8.ofNat (48 + m % 10)]:Bs).length + acc.length <= 4611686018427387904) = true:=decide_eq_true (by simp only [List.length_cons,List.length_nil]; omega)
 simp only [qiC,qoC,hbr,ev_bi_some,e1,e2,e3,e4,g1,g2,Bool.and_self,ev_br,cond_true]
 simp only [Int.toNat_natCast,qKj _ hlt,g3,ev_at,cond_true]
 rfl
theorem qpo {x1:Int} {acc:Bs} (h:x1 <= (acc.length:Int)):(qiC (((0:Nat):Int),x1,acc)).ev = some (.done 0):=by
 have:decide ((acc.length:Int) < x1) = false:=decide_eq_false (by omega)
 simp [qiC,qoC,this]
theorem qwh {x1:Int}:∀ (b m:Nat) (acc:Bs),m <= b -> m <= 1000000 -> acc.length + m <= 1000 + 1000000 -> acc.length + (bif decide (m > 0) then Nat.log2 m + 1 else 0) <= 1000 -> x1 <= (acc.length:Int) -> qnj ((m:Int),x1,acc) = some (0,0,x1,(if m = 0 then [] else Lib.decDigits m) ++ acc):=by
 intro b
 induction b using Nat.strongRecOn with
 | _ b ih=>
  intro m acc hb hm hs hlg hx
  by_cases h0:m = 0
  ·subst h0
   rw [qev,qaj (qpo hx)]; rfl
  ·have hac:acc.length <= 1000:=by omega
   rw [qev,qau (qdj hm hac (.inl (by omega))),<- qev]
   have hlg2:(UInt8.ofNat (48 + m % 10) :: acc).length + (bif decide (m / 10 > 0) then Nat.log2 (m / 10) + 1 else 0) <= 1000:=by
    rw [decide_eq_true (show m > 0 by omega),cond_true] at hlg
    simp only [List.length_cons]
    by_cases h1:m / 10 > 0
    ·rw [decide_eq_true h1,cond_true]
     have:Nat.log2 (m / 10) + 1 <= Nat.log2 m:=by
      have h2:Nat.log2 (m / 10) <= Nat.log2 (m / 2):=by
       refine (Nat.le_log2 (by omega)).2 (Nat.le_trans (Nat.log2_self_le (by omega)) (by omega))
      have h3:Nat.log2 m = Nat.log2 (m / 2) + 1:=by
       conv=>lhs; rw [Nat.log2_def]
       rw [if_pos (by omega)]
      omega
     omega
    ·rw [decide_eq_false h1,cond_false]; omega
   rw [ih (m / 10) (by omega) (m / 10) _ (Nat.le_refl _) (by omega) (by simp only [List.length_cons]; omega) hlg2 (by simp only [List.length_cons]; omega),if_neg h0]
   congr 4
   conv=>rhs; rw [Lib.decDigits]
   by_cases h1:m < 10
   ·rw [dif_pos h1,if_pos (by omega)]
    have:m % 10 = m:=Nat.mod_eq_of_lt h1
    rw [this]; rfl
   ·rw [dif_neg h1,if_neg (by omega),List.append_assoc]; rfl
theorem qGa {m:Nat} (h:m <= 1000000) (h0:m > 0):Nat.log2 m <= 19:=by
 have:=(Nat.log2_lt (n:=m) (k:=20) (by omega)).2 (by omega)
 omega
theorem qpn {m:Nat} (hm:m <= 1000000) {x1:Int} {acc:Bs} (hac:acc.length <= 100) (hx:x1 <= (acc.length:Int)):qnj ((m:Int),x1,acc) = some (0,0,x1,(if m = 0 then [] else Lib.decDigits m) ++ acc):=by
 refine qwh m m acc (Nat.le_refl _) hm (by omega) ?_ hx
 by_cases h0:m > 0
 ·have:=qGa hm h0
  rw [decide_eq_true h0,cond_true]; omega
 ·rw [decide_eq_false h0,cond_false]; omega
theorem qwf {m:Nat} (h:m <= 1000000):(Lib.decDigits m).length <= 30:=by
 have:=qpn (x1:=0) (acc:=[]) h (by simp) (by simp)
 by_cases h0:(Lib.decDigits m).length <= 1
 ·omega
 ·obtain ⟨h1,h2,_⟩:=qhy m m (Nat.le_refl _)
  have:=qOK h1 (by omega)
  rw [h2] at this
  have h3:(Lib.decDigits m).length - 1 < 8:=by
   rcases Nat.lt_or_ge ((Lib.decDigits m).length - 1) 8 with h4 | h4
   ·exact h4
   ·have:=Nat.pow_le_pow_right (n:=10) (by decide) h4
    omega
  omega
theorem qpz (n:Int):qpy n = some (qHA n):=by
 rw [qEC,qsJ]
 unfold qHA
 cases h0:decide (n < 0)
 ·cases h1:decide (n > 1000000)
  ·have h0:=of_decide_eq_false h0
   have h1:=of_decide_eq_false h1
   obtain ⟨m,rfl⟩:=Int.eq_ofNat_of_zero_le (show 0 <= n by omega)
   have hm:m <= 1000000:=by omega
   have e1:((m:Int).tmod 10000) = ((m % 10000:Nat):Int):=rfl
   have e2:((m:Int).tdiv 10000) = ((m / 10000:Nat):Int):=rfl
   have e3:IntKind.i64.wrap ((m / 10000:Nat):Int) = ((m / 10000:Nat):Int):=wrap64 (by omega) (by omega)
   have e4:IntKind.i64.wrap (10000 + ((m % 10000:Nat):Int)) = ((10000 + m % 10000:Nat):Int):=by rw [wrap64 (by omega) (by omega)]; omega
   have hlt:m % 10000 < 10000:=Nat.mod_lt _ (by decide)
   have hd:=qwf (m:=m / 10000) (by omega)
   obtain ⟨_,ht,_⟩:=qjC hlt
   have hw:∀ k:Nat,k <= 1000000 -> (decide (-9223372036854775808 <= ((k:Nat):Int)) && decide (((k:Nat):Int) <= 9223372036854775807)) = true:=fun k hk=>by
    rw [decide_eq_true (by omega),decide_eq_true (by omega)]; rfl
   have q1:leB 1 (49 :: four (m % 10000)).length = true:=rfl
   have q2:List.drop 1 (49 :: four (m % 10000)) = four (m % 10000):=rfl
   have q3:decide ((four (m % 10000)).length <= 9223372036854775807) = true:=rfl
   simp only [e1,e2,e3,e4,hw _ (show 10000 + m % 10000 <= 1000000 by omega),hw _ (show m / 10000 <= 1000000 by omega),Lib.itoa_nonneg,qKh hlt,q1,q2,q3,ev_bi_some,br_eq,cond_false,cond_true,ev_br,Bool.or_false]
   rw [Int.toNat_natCast]
   unfold qrw qcP
   generalize Lib.trimRightB (four (m % 10000)) 48 = p at ht
   have g1:decide ((Lib.decDigits (m / 10000)).length + 1 <= 4611686018427387904) = true:=decide_eq_true (by omega)
   have g2:decide (1 + p.length <= 4611686018427387904) = true:=decide_eq_true (by omega)
   have g3:decide ((Lib.decDigits (m / 10000)).length + ([46] ++ p).length <= 4611686018427387904) = true:=decide_eq_true (by rw [List.length_append,List.length_cons,List.length_nil]; omega)
   have g4:decide ((Lib.decDigits (m / 10000) ++ ([46] ++ p)).length + 1 <= 4611686018427387904) = true:=decide_eq_true (by rw [List.length_append,List.length_append,List.length_cons,List.length_nil]; omega)
   have e5:(p != []) = !(p == []):=rfl
   rw [g1,g2,g3,g4,e5]
   cases (p == [])
   ·simp [List.append_assoc]
   ·simp
  ·simp
 ·simp
end Go.Proofs.H10
