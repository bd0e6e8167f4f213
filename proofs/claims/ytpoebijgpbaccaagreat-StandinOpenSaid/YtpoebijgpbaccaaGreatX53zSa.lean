/- What R25.Sound calls: it ends with some value. First part. -/
import Derived.Test.YtpoebijgpbaccaaGreatTkA
import Derived.Test.YtpoebijgpbaccaaGreatBkA
import Derived.Test.YtpoebijgpbaccaaGreatToA
set_option linter.unusedVariables false
set_option linter.unusedSimpArgs false
set_option linter.unnecessarySimpa false
namespace Go.Proofs.H53z
open Go Go.Eng Go.Tk
set_option maxRecDepth 20000
theorem qwe {l:List Hol} (hb:l.length <= 1000):Lo (qud (EHo l,0)) 2 fun w=>∃ m:Nat,m <= l.length /\ w = (EHo l,(m:Int)):=by
 have h9:l.length <= 9223372036854775807:=by omega
 rw [que]
 refine qaZ (fun n=>(EHo l,(n:Int))) l.length 2 (fun n _=>?_) 0 (Nat.zero_le _)
 simp only [qrp,qvC]
 by_cases hn:n < l.length
 ·refine qaB (qds hn) ?_
  (repeat' (first | exact qak trivial | exact qan trivial | exact qap (by decide) | exact qaW ⟨hn,by simp only [qaP hn h9]⟩ | refine qaB (qCJ hn) ?_ | refine qaE (qCJ hn) ?_ | refine qao (Q:=fun _=>True) ?_ (fun _ _=>?_) | refine qaq (fun _=>?_) (fun _=>?_) | refine qax (fun _=>?_) (fun _=>?_)))
 ·exact qcy (qdr hn) (qap (by decide))
theorem qso (l:List Hol):Ok (qiF (EHo l)) fun y=>y = false -> l.length <= 100:=by
 rw [qA1,qkC]
 refine qaq (fun h=>qak (fun h=>by cases h)) (fun h=>?_)
 rw [List.length_map] at h
 have h':l.length <= 100:=by have:=of_decide_eq_false h; omega
 exact qa9 (qwe (l:=l) (by omega)) (fun _ _=>qak fun _=>h') (fun _ _=>qak fun _=>h')
theorem qcG (s:Bs):Ok (ql6 s) fun _=>True:=by
 have hl:∀ n:Nat,n <= 3 -> s.length = 3 -> Lo (quw (s,(n:Int))) 2 fun w=>∃ m:Nat,m <= 3 /\ w = (s,(m:Int)):=by
  intro n hn hs
  rw [qux]
  refine qaZ (fun n=>(s,(n:Int))) 3 2 (fun n _=>?_) n hn
  simp only [qrz,qvL]
  by_cases hn:n < 3
  ·have hi:inB s.length (n:Int) = true:=qbG (by omega)
   refine qaB (decide_eq_true (by omega)) ?_
   (repeat' (first | exact qak trivial | exact qan trivial | exact qap (by decide) | exact qaW ⟨hn,by simp only [qaP hn (by decide:3<=9223372036854775807)]⟩ | refine qaB (hi) ?_ | refine qaE (hi) ?_ | refine qao (Q:=fun _=>True) ?_ (fun _ _=>?_) | refine qaq (fun _=>?_) (fun _=>?_) | refine qax (fun _=>?_) (fun _=>?_)))
  ·exact qcy (decide_eq_false (by omega)) (qap (by decide))
 rw [qBc,qkM]
 refine qaq (fun _=>qak trivial) (fun h=>?_)
 have hs:s.length = 3:=by have:((s.length:Nat):Int) = 3:=(by simpa using h); omega
 exact qa9 (hl 0 (by decide) hs) (fun _ _=>qak trivial) (fun _ _=>qak trivial)
theorem qfL {l:List Cu} (hb:l.length <= 1000):Ok (qiB (EC l)) fun _=>True:=by
 have h9:l.length <= 9223372036854775807:=by omega
 have hl:Lo (qmV (EC l,0)) 4 fun w=>∃ m:Nat,m <= l.length /\ w = (EC l,(m:Int)):=by
  rw [qtB]
  refine qaZ (fun n=>(EC l,(n:Int))) l.length 4 (fun n _=>?_) 0 (Nat.zero_le _)
  simp only [qq8,qvm]
  by_cases hn:n < l.length
  ·refine qaB (qds hn) ?_
   by_cases h0:0 < n
   ·have hp:qaw ksV (EC l) (IntKind.wrap .i64 ((n:Int) - 1)) = true:=qgm hkC hn h0 h9
    (repeat' (first | exact qak trivial | exact qan trivial | exact qap (by decide) | exact qaW ⟨hn,by simp only [qaP hn h9]⟩ | refine qaB (okC hn) ?_ | refine qaE (okC hn) ?_ | refine qaB (hp) ?_ | refine qaE (hp) ?_ | refine qao (Q:=fun _=>True) (qcG _) (fun _ _=>?_) | refine qaB (qaG (qcG _)) ?_ | refine qaE (qaG (qcG _)) ?_ | refine qao (Q:=fun _=>True) ?_ (fun _ _=>?_) | refine qaq (fun _=>?_) (fun _=>?_) | refine qax (fun _=>?_) (fun _=>?_)))
   ·have e0:decide ((n:Int) > 0) = false:=decide_eq_false (by omega)
    (repeat' (first | exact qak trivial | exact qan trivial | exact qap (by decide) | exact qaW ⟨hn,by simp only [qaP hn h9]⟩ | refine qaB (okC hn) ?_ | refine qaE (okC hn) ?_ | refine qao (Q:=fun _=>True) (qcG _) (fun _ _=>?_) | refine qaB (qaG (qcG _)) ?_ | refine qaE (qaG (qcG _)) ?_ | refine qcy (e0) ?_ | refine qao (Q:=fun _=>True) ?_ (fun _ _=>?_) | refine qaq (fun _=>?_) (fun _=>?_) | refine qax (fun _=>?_) (fun _=>?_)))
  ·exact qcy (qdr hn) (qap (by decide))
 rw [qAI,qkl]
 refine qao (Q:=fun _=>True) (by (repeat' (first | exact qak trivial | exact qan trivial | exact qap (by decide) | refine qao (Q:=fun _=>True) ?_ (fun _ _=>?_) | refine qaq (fun _=>?_) (fun _=>?_) | refine qax (fun _=>?_) (fun _=>?_)))) (fun _ _=>qaq (fun _=>qak trivial) (fun _=>?_))
 exact qIv hl (fun _ _=>qak trivial) (fun _ _=>qak trivial) (fun _ _=>qak trivial) (fun _ _=>qak trivial)
theorem qcH (s:Bs):Ok (qiL s) fun _=>True:=by
 rw [qBs,qk4]
 cases s with
 | nil=>exact qbx (b:=true) rfl (qbx (b:=true) rfl (qbx (b:=true) rfl (qaB rfl (qak trivial))))
 | cons c r=>
  have h0:inB (c :: r).length 0 = true:=qbG (n:=0) (by simp)
  by_cases hb:(c :: r).length <= 16
  ·have h9:(c :: r).length <= 9223372036854775807:=by omega
   have hl:∀ n:Nat,n <= (c :: r).length -> Lo (qmK (c :: r,(n:Int))) 2 fun w=>∃ m:Nat,m <= (c :: r).length /\ w = (c :: r,(m:Int)):=by
    intro n hn
    rw [qo3]
    refine qaZ (fun n:Nat=>(c :: r,(n:Int))) (c :: r).length 2 (fun n _=>?_) n hn
    simp only [qj3,qpE]
    by_cases hn:n < (c :: r).length
    ·refine qaB (decide_eq_true (by omega)) ?_
     (repeat' (first | exact qak trivial | exact qan trivial | exact qap (by decide) | exact qaW ⟨hn,by simp only [qaP hn h9]⟩ | refine qaB (qbG hn) ?_ | refine qaE (qbG hn) ?_ | refine qao (Q:=fun _=>True) ?_ (fun _ _=>?_) | refine qaq (fun _=>?_) (fun _=>?_) | refine qax (fun _=>?_) (fun _=>?_)))
    ·exact qcy (decide_eq_false (by omega)) (qap (by decide))
   (repeat' (first | refine qa9 ( hl 1 (by simp)) (fun _ _=>?_) (fun _ _=>?_) | exact qak trivial | exact qan trivial | exact qap (by decide) | refine qaB (h0) ?_ | refine qaE (h0) ?_ | refine qao (Q:=fun _=>True) ?_ (fun _ _=>?_) | refine qaq (fun _=>?_) (fun _=>?_) | refine qax (fun _=>?_) (fun _=>?_)))
  ·refine qbx (b:=true) ?_ (qbx (b:=true) rfl (qbx (b:=true) rfl (qaB rfl (qak trivial))))
   show br false (some true) (some (decide (((c :: r).length:Int) > 16))) = some true
   rw [decide_eq_true (by omega)]; rfl
theorem qbI {l:List Gl} (hb:l.length <= 1000) (id:Int):Ok (qcN (EGl l) id) fun _=>True:=by
 have h9:l.length <= 9223372036854775807:=by omega
 have hl:Lo (qmJ (EGl l,id,0,0,0,0,[])) 2 fun w=>∃ m:Nat,m <= l.length /\ w = (EGl l,id,(m:Int),0,0,0,[]):=by
  rw [qo1]
  refine qaZ (fun n:Nat=>(EGl l,id,(n:Int),0,0,0,[])) l.length 2 (fun n _=>?_) 0 (Nat.zero_le _)
  simp only [qj2,qpB]
  by_cases hn:n < l.length
  ·refine qaB (qds hn) ?_
   (repeat' (first | exact qak trivial | exact qan trivial | exact qap (by decide) | exact qaW ⟨hn,by simp only [qaP hn h9]⟩ | refine qaB (qsf hn) ?_ | refine qaE (qsf hn) ?_ | refine qao (Q:=fun _=>True) ?_ (fun _ _=>?_) | refine qaq (fun _=>?_) (fun _=>?_) | refine qax (fun _=>?_) (fun _=>?_)))
  ·exact qcy (qdr hn) (qap (by decide))
 rw [qBq,qkZ]
 (repeat' (first | refine qa9 ( hl) (fun _ _=>?_) (fun _ _=>?_) | exact qak trivial | exact qan trivial | exact qap (by decide) | refine qao (Q:=fun _=>True) ?_ (fun _ _=>?_) | refine qaq (fun _=>?_) (fun _=>?_) | refine qax (fun _=>?_) (fun _=>?_)))
theorem qbS {l:List Gl} (hb:l.length <= 1000) (n:Nat) (id:Int):Ok (qcN (List.take ((n:Int)).toNat (EGl l)) id) fun _=>True:=by
 rw [qvR]; exact qbI (by rw [List.length_take]; omega) id
theorem qct {l:List Gl} (hb:l.length <= 1000) (id:Int):Ok (qfZ (EGl l) id) fun _=>True:=by
 have h9:l.length <= 9223372036854775807:=by omega
 have hl:Lo (qtt (EGl l,id,0)) 2 fun w=>∃ m:Nat,m <= l.length /\ w = (EGl l,id,(m:Int)):=by
  rw [qtu]
  refine qaZ (fun n:Nat=>(EGl l,id,(n:Int))) l.length 2 (fun n _=>?_) 0 (Nat.zero_le _)
  simp only [qq4,qvj]
  by_cases hn:n < l.length
  ·refine qaB (qds hn) ?_
   (repeat' (first | exact qak trivial | exact qan trivial | exact qap (by decide) | exact qaW ⟨hn,by simp only [qaP hn h9]⟩ | refine qaB (qsf hn) ?_ | refine qaE (qsf hn) ?_ | refine qao (Q:=fun _=>True) ?_ (fun _ _=>?_) | refine qaq (fun _=>?_) (fun _=>?_) | refine qax (fun _=>?_) (fun _=>?_)))
  ·exact qcy (qdr hn) (qap (by decide))
 rw [qAy,qkd]
 (repeat' (first | refine qa9 ( hl) (fun _ _=>?_) (fun _ _=>?_) | exact qak trivial | exact qan trivial | exact qap (by decide) | refine qao (Q:=fun _=>True) ?_ (fun _ _=>?_) | refine qaq (fun _=>?_) (fun _=>?_) | refine qax (fun _=>?_) (fun _=>?_)))
theorem qg1 {l:List Gl} (hb:l.length <= 1000) (id k:Int):Ok (qhf (EGl l) id k) fun _=>True:=by
 rw [qBt,qk5]
 (repeat' (first | exact qak trivial | exact qan trivial | exact qap (by decide) | refine qao (Q:=fun _=>True) (qbI hb _) (fun _ _=>?_) | refine qaB (qaG (qbI hb _)) ?_ | refine qaE (qaG (qbI hb _)) ?_ | refine qao (Q:=fun _=>True) (qct hb _) (fun _ _=>?_) | refine qaB (qaG (qct hb _)) ?_ | refine qaE (qaG (qct hb _)) ?_ | refine qao (Q:=fun _=>True) ?_ (fun _ _=>?_) | refine qaq (fun _=>?_) (fun _=>?_) | refine qax (fun _=>?_) (fun _=>?_)))
theorem qfN {l:List Gl} (hb:l.length <= 1000) (a3 a4 a5 a6 a7 a8 a9 a10 a11 a12 a13 a14 a15 a16:Int):Ok (qiD (EGl l) a3 a4 a5 a6 a7 a8 a9 a10 a11 a12 a13 a14 a15 a16) fun _=>True:=by
 have h9:l.length <= 9223372036854775807:=by omega
 have hl:Lo (qhX (EGl l,0,a3,a4,a5,a6,a7,a8,a9,a10,a11,a12,a13,a14,a15,a16)) 6 fun w=>∃ m:Nat,m <= l.length /\ w = (EGl l,(m:Int),a3,a4,a5,a6,a7,a8,a9,a10,a11,a12,a13,a14,a15,a16):=by
  rw [qtX]
  refine qaZ (fun n:Nat=>(EGl l,(n:Int),a3,a4,a5,a6,a7,a8,a9,a10,a11,a12,a13,a14,a15,a16)) l.length 6 (fun n _=>?_) 0 (Nat.zero_le _)
  simp only [qrh,qvv]
  by_cases hn:n < l.length
  ·refine qaB (qds hn) ?_
   by_cases h0:0 < n
   ·have hp:qaw q4d (EGl l) (IntKind.wrap .i64 ((n:Int) - 1)) = true:=qgm q6b hn h0 h9
    (repeat' (first | exact qak trivial | exact qan trivial | exact qap (by decide) | exact qaW ⟨hn,by simp only [qaP hn h9]⟩ | refine qaB (qsf hn) ?_ | refine qaE (qsf hn) ?_ | refine qaB (hp) ?_ | refine qaE (hp) ?_ | refine qaB (leE (Nat.le_of_lt hn)) ?_ | refine qaE (leE (Nat.le_of_lt hn)) ?_ | refine qao (Q:=fun _=>True) (qcH _) (fun _ _=>?_) | refine qaB (qaG (qcH _)) ?_ | refine qaE (qaG (qcH _)) ?_ | refine qao (Q:=fun _=>True) (qbS hb _ _) (fun _ _=>?_) | refine qaB (qaG (qbS hb _ _)) ?_ | refine qaE (qaG (qbS hb _ _)) ?_ | refine qao (Q:=fun _=>True) ?_ (fun _ _=>?_) | refine qaq (fun _=>?_) (fun _=>?_) | refine qax (fun _=>?_) (fun _=>?_)))
   ·have e0:decide ((n:Int) > 0) = false:=decide_eq_false (by omega)
    (repeat' (first | exact qak trivial | exact qan trivial | exact qap (by decide) | exact qaW ⟨hn,by simp only [qaP hn h9]⟩ | refine qaB (qsf hn) ?_ | refine qaE (qsf hn) ?_ | refine qcy (e0) ?_ | refine qaB (leE (Nat.le_of_lt hn)) ?_ | refine qaE (leE (Nat.le_of_lt hn)) ?_ | refine qao (Q:=fun _=>True) (qcH _) (fun _ _=>?_) | refine qaB (qaG (qcH _)) ?_ | refine qaE (qaG (qcH _)) ?_ | refine qao (Q:=fun _=>True) (qbS hb _ _) (fun _ _=>?_) | refine qaB (qaG (qbS hb _ _)) ?_ | refine qaE (qaG (qbS hb _ _)) ?_ | refine qao (Q:=fun _=>True) ?_ (fun _ _=>?_) | refine qaq (fun _=>?_) (fun _=>?_) | refine qax (fun _=>?_) (fun _=>?_)))
  ·exact qcy (qdr hn) (qap (by decide))
 have hk:∀ is ks:List Int,is.length = 14 -> ks.length = 14 -> Lo (qtY (EGl l,0,EIn is,EIn ks)) 2 fun w=>∃ m:Nat,m <= 14 /\ w = (EGl l,(m:Int),EIn is,EIn ks):=by
  intro is ks h1 h2
  rw [qtZ]
  refine qaZ (fun n:Nat=>(EGl l,(n:Int),EIn is,EIn ks)) 14 2 (fun n _=>?_) 0 (Nat.zero_le _)
  simp only [qri,qvw]
  by_cases hn:n < 14
  ·refine qaB (by rw [List.length_map]; exact decide_eq_true (by omega)) ?_
   (repeat' (first | exact qak trivial | exact qan trivial | exact qap (by decide) | exact qaW ⟨hn,by simp only [qaP hn (by decide:14<=9223372036854775807)]⟩ | refine qaB (inE (l:=is) (av:=AV.int IntKind.i64) (n:=n) (by omega)) ?_ | refine qaE (inE (l:=is) (av:=AV.int IntKind.i64) (n:=n) (by omega)) ?_ | refine qaB (inE (l:=ks) (av:=AV.int IntKind.i64) (n:=n) (by omega)) ?_ | refine qaE (inE (l:=ks) (av:=AV.int IntKind.i64) (n:=n) (by omega)) ?_ | refine qaB (q2H (l:=is) (n:=n) (by omega)) ?_ | refine qaE (q2H (l:=is) (n:=n) (by omega)) ?_ | refine qaB (q2H (l:=ks) (n:=n) (by omega)) ?_ | refine qaE (q2H (l:=ks) (n:=n) (by omega)) ?_ | refine qao (Q:=fun _=>True) (qg1 hb _ _) (fun _ _=>?_) | refine qaB (qaG (qg1 hb _ _)) ?_ | refine qaE (qaG (qg1 hb _ _)) ?_ | refine qao (Q:=fun _=>True) ?_ (fun _ _=>?_) | refine qaq (fun _=>?_) (fun _=>?_) | refine qax (fun _=>?_) (fun _=>?_)))
  ·exact qcy (by rw [List.length_map]; exact decide_eq_false (by omega)) (qap (by decide))
 rw [qAU,qkw]
 refine qao (Q:=fun _=>True) (by (repeat' (first | exact qak trivial | exact qan trivial | exact qap (by decide) | refine qao (Q:=fun _=>True) ?_ (fun _ _=>?_) | refine qaq (fun _=>?_) (fun _=>?_) | refine qax (fun _=>?_) (fun _=>?_)))) (fun _ _=>qaq (fun _=>qak trivial) (fun _=>?_))
 refine qZv hl (fun _ _=>qak trivial) (fun _ _=>qak trivial) (fun _ _=>qak trivial) (fun _ _=>qak trivial) (fun _ _=>qak trivial) ?_
 rintro _ ⟨m,hm,rfl⟩
 exact qa9 (hk [a3,a4,a5,a6,a7,a8,a9,a10,a11,a12,a13,a14,a15,a16] [1,2,5,4,4,2,1,1,4,4,2,5,5,4] rfl rfl) (fun _ _=>qak trivial) (fun _ _=>qak trivial)
end Go.Proofs.H53z
namespace Go.Proofs.H53z
open Go Go.Eng Go.Tk
set_option maxRecDepth 20000
theorem qev (p q:Pr):Ok (qlK p.name p.cur p.cal p.from_ p.every p.over p.tax (ETr p.cr.tiers) p.cr.marg p.cr.basis p.cr.mode p.cr.keep (ETr p.de.tiers) p.de.marg p.de.basis p.de.mode p.de.keep (EF p.fees) (ER p.rules) q.name q.cur q.cal q.from_ q.every q.over q.tax (ETr q.cr.tiers) q.cr.marg q.cr.basis q.cr.mode q.cr.keep (ETr q.de.tiers) q.de.marg q.de.basis q.de.mode q.de.keep (EF q.fees) (ER q.rules)) fun _=>True:=by
 rw [qAw,qkb]
 (repeat' (first | exact qak trivial | exact qan trivial | exact qap (by decide) | refine qao (Q:=fun _=>True) ?_ (fun _ _=>?_) | refine qaq (fun _=>?_) (fun _=>?_) | refine qax (fun _=>?_) (fun _=>?_)))
theorem qfM {l:List Pr} (hb:l.length <= 1000):Ok (qiC (EPr l)) fun _=>True:=by
 have h9:l.length <= 9223372036854775807:=by omega
 have h0:0 < l.length -> Lo (qpe (EPr l,1)) 2 fun w=>∃ m:Nat,m <= l.length /\ w = (EPr l,(m:Int)):=by
  intro hl
  rw [qm0]
  refine qxk (fun n:Nat=>(EPr l,(n:Int))) l.length 2 (fun n hn1 _=>?_) hl
  simp only [qrf,qvt]
  by_cases hn:n < l.length
  ·refine qaB (qds hn) ?_
   have hp:qaw q2A (EPr l) (IntKind.wrap .i64 ((n:Int) - 1)) = true:=qgm q35 hn hn1 h9
   refine qaB hp (qaB (qsg hn) ?_)
   have hm:n - 1 < l.length:=by omega
   simp only [qCD hn hn1 h9,qMV hm,qXo hm,qXp hm,qCM hm,qXq hm,qXr hm,qXs hm,qXt hm,qXu hm,qXv hm,qCh hm,qCi hm,qCj hm,qCk hm,qCl hm,qCm hm,qCn hm,qCo hm,qCp hm,
    qMV hn,qXo hn,qXp hn,qCM hn,qXq hn,qXr hn,qXs hn,qXt hn,qXu hn,qXv hn,qCh hn,qCi hn,qCj hn,qCk hn,qCl hn,qCm hn,qCn hn,qCo hn,qCp hn]
   (repeat' (first | exact qak trivial | exact qan trivial | exact qap (by decide) | exact qaW ⟨hn,by simp only [qaP hn h9]⟩ | refine qao (Q:=fun _=>True) (qev _ _) (fun _ _=>?_) | refine qaB (qaG (qev _ _)) ?_ | refine qaE (qaG (qev _ _)) ?_ | refine qao (Q:=fun _=>True) ?_ (fun _ _=>?_) | refine qaq (fun _=>?_) (fun _=>?_) | refine qax (fun _=>?_) (fun _=>?_)))
  ·exact qcy (qdr hn) (qap (by decide))
 have h1:0 < l.length -> Lo (qpf (EPr l,1)) 2 fun w=>∃ m:Nat,m <= l.length /\ w = (EPr l,(m:Int)):=by
  intro hl
  rw [qm1]
  refine qxk (fun n:Nat=>(EPr l,(n:Int))) l.length 2 (fun n hn1 _=>?_) hl
  simp only [qrg,qvu]
  by_cases hn:n < l.length
  ·refine qaB (qds hn) ?_
   have hp:qaw q2A (EPr l) (IntKind.wrap .i64 ((n:Int) - 1)) = true:=qgm q35 hn hn1 h9
   (repeat' (first | exact qak trivial | exact qan trivial | exact qap (by decide) | exact qaW ⟨hn,by simp only [qaP hn h9]⟩ | refine qaB (qsg hn) ?_ | refine qaE (qsg hn) ?_ | refine qaB (hp) ?_ | refine qaE (hp) ?_ | refine qao (Q:=fun _=>True) ?_ (fun _ _=>?_) | refine qaq (fun _=>?_) (fun _=>?_) | refine qax (fun _=>?_) (fun _=>?_)))
  ·exact qcy (qdr hn) (qap (by decide))
 rw [qAT,qkv]
 refine qaq (fun _=>qak trivial) (fun _=>?_)
 by_cases hl:0 < l.length
 ·refine qa9 (h0 hl) (fun _ _=>qak trivial) ?_
  rintro _ ⟨m,_,rfl⟩
  exact qa9 (h1 hl) (fun _ _=>qak trivial) (fun _ _=>qak trivial)
 ·obtain rfl:l = []:=by cases l with
   | nil=>rfl
   | cons _ _=>exact absurd (by simp) hl
  have e0:Lo (qpe (EPr [],1)) 2 fun w=>w = (EPr [],1):=by rw [qm0]; exact qxi (j:=1) rfl (by decide)
  have e1:Lo (qpf (EPr [],1)) 2 fun w=>w = (EPr [],1):=by rw [qm1]; exact qxi (j:=1) rfl (by decide)
  refine qa9 e0 (fun _ _=>qak trivial) ?_
  rintro _ rfl
  exact qa9 e1 (fun _ _=>qak trivial) (fun _ _=>qak trivial)
theorem qaT (n:Int):Ok (qbf n) fun _=>True:=by
 rw [qoz,qin]
 (repeat' (first | exact qak trivial | exact qan trivial | exact qap (by decide) | refine qao (Q:=fun _=>True) ?_ (fun _ _=>?_) | refine qaq (fun _=>?_) (fun _=>?_) | refine qax (fun _=>?_) (fun _=>?_)))
theorem qca (s:Bs):Ok (qiI s) fun _=>True:=by
 rw [qBf,qkP]
 cases s with
 | nil=>exact qbx (b:=true) rfl (qbx (b:=true) rfl (qbx (b:=true) rfl (qaB rfl (qak trivial))))
 | cons c r=>
  have h0:inB (c :: r).length 0 = true:=qbG (n:=0) (by simp)
  by_cases hb:(c :: r).length <= 16
  ·have h9:(c :: r).length <= 9223372036854775807:=by omega
   have hl:∀ n:Nat,n <= (c :: r).length -> Lo (qmF (c :: r,(n:Int))) 2 fun w=>∃ m:Nat,m <= (c :: r).length /\ w = (c :: r,(m:Int)):=by
    intro n hn
    rw [qoW]
    refine qaZ (fun n:Nat=>(c :: r,(n:Int))) (c :: r).length 2 (fun n _=>?_) n hn
    simp only [qj0,qpz]
    by_cases hn:n < (c :: r).length
    ·refine qaB (decide_eq_true (by omega)) ?_
     (repeat' (first | exact qak trivial | exact qan trivial | exact qap (by decide) | exact qaW ⟨hn,by simp only [qaP hn h9]⟩ | refine qaB (qbG hn) ?_ | refine qaE (qbG hn) ?_ | refine qao (Q:=fun _=>True) ?_ (fun _ _=>?_) | refine qaq (fun _=>?_) (fun _=>?_) | refine qax (fun _=>?_) (fun _=>?_)))
    ·exact qcy (decide_eq_false (by omega)) (qap (by decide))
   (repeat' (first | refine qa9 ( hl 0 (Nat.zero_le _)) (fun _ _=>?_) (fun _ _=>?_) | exact qak trivial | exact qan trivial | exact qap (by decide) | refine qaB (h0) ?_ | refine qaE (h0) ?_ | refine qao (Q:=fun _=>True) ?_ (fun _ _=>?_) | refine qaq (fun _=>?_) (fun _=>?_) | refine qax (fun _=>?_) (fun _=>?_)))
  ·refine qbx (b:=true) ?_ (qbx (b:=true) rfl (qbx (b:=true) rfl (qaB rfl (qak trivial))))
   show br (decide (((c :: r).length:Int) < 1)) (some true) (some (decide (((c :: r).length:Int) > 16))) = some true
   rw [decide_eq_true (p:=((c :: r).length:Int) > 16) (by omega)]
   cases decide (((c :: r).length:Int) < 1) <;> rfl
theorem qcf {l:List Int} (h9:l.length <= 9223372036854775807):Ok (qg9 (EIn l)) fun _=>True:=by
 rw [qAK,qkn]
 cases l with
 | nil=>
  have e0:Lo (qpd (EIn [],1)) 2 fun w=>w = (EIn [],1):=by rw [qmW]; exact qxi (j:=1) rfl (by decide)
  exact qa9 e0 (fun _ _=>qak trivial) (fun _ _=>qak trivial)
 | cons c r=>
  have hl:Lo (qpd (EIn (c :: r),1)) 2 fun w=>∃ m:Nat,m <= (c :: r).length /\ w = (EIn (c :: r),(m:Int)):=by
   rw [qmW]
   refine qxk (fun n:Nat=>(EIn (c :: r),(n:Int))) (c :: r).length 2 (fun n hn1 _=>?_) (by simp)
   simp only [qrb,qvp]
   by_cases hn:n < (c :: r).length
   ·refine qaB (qds hn) ?_
    have hp:qaw [CS.int IntKind.i64] (EIn (c :: r)) (IntKind.wrap .i64 ((n:Int) - 1)) = true:=qgm (fun _=>rfl) hn hn1 h9
    (repeat' (first | exact qak trivial | exact qan trivial | exact qap (by decide) | exact qaW ⟨hn,by simp only [qaP hn h9]⟩ | refine qaB (qXh hn) ?_ | refine qaE (qXh hn) ?_ | refine qaB (hp) ?_ | refine qaE (hp) ?_ | refine qao (Q:=fun _=>True) ?_ (fun _ _=>?_) | refine qaq (fun _=>?_) (fun _=>?_) | refine qax (fun _=>?_) (fun _=>?_)))
   ·exact qcy (qdr hn) (qap (by decide))
  (repeat' (first | refine qa9 ( hl) (fun _ _=>?_) (fun _ _=>?_) | exact qak trivial | exact qan trivial | exact qap (by decide) | refine qao (Q:=fun _=>True) ?_ (fun _ _=>?_) | refine qaq (fun _=>?_) (fun _=>?_) | refine qax (fun _=>?_) (fun _=>?_)))
theorem qsi (nm:Bs) {ws hs:List Int} (hw:ws.length <= 9223372036854775807) (hh:hs.length <= 9223372036854775807):Ok (qlQ nm (EIn ws) (EIn hs)) fun _=>True:=by
 have h0:Lo (qtC (0,nm,EIn ws,EIn hs)) 2 fun w=>∃ m:Nat,m <= ws.length /\ w = ((m:Int),nm,EIn ws,EIn hs):=by
  rw [qtD]
  refine qaZ (fun n:Nat=>((n:Int),nm,EIn ws,EIn hs)) ws.length 2 (fun n _=>?_) 0 (Nat.zero_le _)
  simp only [qq9,qvn]
  by_cases hn:n < ws.length
  ·refine qaB (qds hn) ?_
   (repeat' (first | exact qak trivial | exact qan trivial | exact qap (by decide) | exact qaW ⟨hn,by simp only [qaP hn hw]⟩ | refine qaB (qXh hn) ?_ | refine qaE (qXh hn) ?_ | refine qao (Q:=fun _=>True) ?_ (fun _ _=>?_) | refine qaq (fun _=>?_) (fun _=>?_) | refine qax (fun _=>?_) (fun _=>?_)))
  ·exact qcy (qdr hn) (qap (by decide))
 have h1:Lo (qtE (0,nm,EIn ws,EIn hs)) 2 fun w=>∃ m:Nat,m <= hs.length /\ w = ((m:Int),nm,EIn ws,EIn hs):=by
  rw [qtF]
  refine qaZ (fun n:Nat=>((n:Int),nm,EIn ws,EIn hs)) hs.length 2 (fun n _=>?_) 0 (Nat.zero_le _)
  simp only [qra,qvo]
  by_cases hn:n < hs.length
  ·refine qaB (qds hn) ?_
   (repeat' (first | exact qak trivial | exact qan trivial | exact qap (by decide) | exact qaW ⟨hn,by simp only [qaP hn hh]⟩ | refine qaB (qXh hn) ?_ | refine qaE (qXh hn) ?_ | refine qao (Q:=fun _=>True) (qaT _) (fun _ _=>?_) | refine qaB (qaG (qaT _)) ?_ | refine qaE (qaG (qaT _)) ?_ | refine qao (Q:=fun _=>True) ?_ (fun _ _=>?_) | refine qaq (fun _=>?_) (fun _=>?_) | refine qax (fun _=>?_) (fun _=>?_)))
  ·exact qcy (qdr hn) (qap (by decide))
 rw [qAJ,qkm]
 refine qao (qca nm) (fun _ _=>qaq (fun _=>qak trivial) (fun _=>qa9 h0 (fun _ _=>qak trivial) ?_))
 rintro _ ⟨m,_,rfl⟩
 refine qao (Q:=fun _=>True) (by (repeat' (first | exact qak trivial | exact qan trivial | exact qap (by decide) | refine qao (Q:=fun _=>True) (qcf hw) (fun _ _=>?_) | refine qaB (qaG (qcf hw)) ?_ | refine qaE (qaG (qcf hw)) ?_ | refine qao (Q:=fun _=>True) ?_ (fun _ _=>?_) | refine qaq (fun _=>?_) (fun _=>?_) | refine qax (fun _=>?_) (fun _=>?_)))) (fun _ _=>qaq (fun _=>qak trivial) (fun _=>qaq (fun _=>qak trivial) (fun _=>qa9 h1 (fun _ _=>qak trivial) ?_)))
 rintro _ ⟨m,_,rfl⟩
 (repeat' (first | exact qak trivial | exact qan trivial | exact qap (by decide) | refine qao (Q:=fun _=>True) (qcf hh) (fun _ _=>?_) | refine qaB (qaG (qcf hh)) ?_ | refine qaE (qaG (qcf hh)) ?_ | refine qao (Q:=fun _=>True) ?_ (fun _ _=>?_) | refine qaq (fun _=>?_) (fun _=>?_) | refine qax (fun _=>?_) (fun _=>?_)))
end Go.Proofs.H53z
namespace Go.Proofs.H53z
open Go Go.Eng Go.Tk
set_option maxRecDepth 20000
structure PrB (p:Pr):Prop where
 crl:p.cr.tiers.length <= 9223372036854775807
 del:p.de.tiers.length <= 9223372036854775807
 fel:p.fees.length <= 9223372036854775807
 rul:p.rules.length <= 9223372036854775807
 fees:∀ x ∈ p.fees,FeW x
 rules:∀ x ∈ p.rules,Wd x.amount
def SmP (p:Pr):Prop:=p.cr.tiers.length <= 20 /\ p.de.tiers.length <= 20 /\ p.fees.length <= 10 /\ p.rules.length <= 10
theorem prW {p:Pr} (h:PrB p) (k:SmP p):PrW p:=⟨by have:=k.1; omega,by have:=k.2.1; omega,by have:=k.2.2.1; omega,by have:=k.2.2.2; omega,h.fees,h.rules⟩
theorem qbl {e:Ex} (hw:Wd e):Ok (qcL e.op e.num e.txt (EX e.args) 100) fun _=>True:=by
 have h:qcL e.op e.num e.txt (EX e.args) 100 = some (decide (e.nodes > 100)):=qlU hw (most:=100) (by omega)
 exact ⟨_,h,trivial⟩
theorem qsl {p:Pr} (hp:PrB p):Ok (qlX p.name p.cur p.cal p.from_ p.every p.over p.tax (ETr p.cr.tiers) p.cr.marg p.cr.basis p.cr.mode p.cr.keep (ETr p.de.tiers) p.de.marg p.de.basis p.de.mode p.de.keep (EF p.fees) (ER p.rules)) fun y=>y = false -> SmP p:=by
 have h0:Lo (qtT (0,p.name,p.cur,p.cal,p.from_,p.every,p.over,p.tax,(ETr p.cr.tiers),p.cr.marg,p.cr.basis,p.cr.mode,p.cr.keep,(ETr p.de.tiers),p.de.marg,p.de.basis,p.de.mode,p.de.keep,(EF p.fees),(ER p.rules))) 2 fun w=>∃ m:Nat,m <= p.fees.length /\ w = ((m:Int),p.name,p.cur,p.cal,p.from_,p.every,p.over,p.tax,(ETr p.cr.tiers),p.cr.marg,p.cr.basis,p.cr.mode,p.cr.keep,(ETr p.de.tiers),p.de.marg,p.de.basis,p.de.mode,p.de.keep,(EF p.fees),(ER p.rules)):=by
  rw [qtU]
  refine qaZ (fun n:Nat=>((n:Int),p.name,p.cur,p.cal,p.from_,p.every,p.over,p.tax,(ETr p.cr.tiers),p.cr.marg,p.cr.basis,p.cr.mode,p.cr.keep,(ETr p.de.tiers),p.de.marg,p.de.basis,p.de.mode,p.de.keep,(EF p.fees),(ER p.rules))) p.fees.length 2 (fun n _=>?_) 0 (Nat.zero_le _)
  simp only [qrd,qvr]
  by_cases hn:n < p.fees.length
  ·have hw:=hp.fees _ (List.getElem_mem hn)
   have hf:=hp.fel
   refine qaB (qds hn) (qaB (okF hn) ?_)
   simp only [qf0 hn,qf2 hn,qf3 hn,qf4 hn,qf5 hn,qf6 hn,qf7 hn,qf8 hn,qf9 hn]
   (repeat' (first | exact qak trivial | exact qan trivial | exact qap (by decide) | exact qaW ⟨hn,by simp only [qaP hn hf]⟩ | refine qaB (okF hn) ?_ | refine qaE (okF hn) ?_ | refine qao (Q:=fun _=>True) (qbl hw.1) (fun _ _=>?_) | refine qaB (qaG (qbl hw.1)) ?_ | refine qaE (qaG (qbl hw.1)) ?_ | refine qao (Q:=fun _=>True) (qbl hw.2) (fun _ _=>?_) | refine qaB (qaG (qbl hw.2)) ?_ | refine qaE (qaG (qbl hw.2)) ?_ | refine qao (Q:=fun _=>True) ?_ (fun _ _=>?_) | refine qaq (fun _=>?_) (fun _=>?_) | refine qax (fun _=>?_) (fun _=>?_)))
  ·exact qcy (qdr hn) (qap (by decide))
 have h1:Lo (qtV (0,p.name,p.cur,p.cal,p.from_,p.every,p.over,p.tax,(ETr p.cr.tiers),p.cr.marg,p.cr.basis,p.cr.mode,p.cr.keep,(ETr p.de.tiers),p.de.marg,p.de.basis,p.de.mode,p.de.keep,(EF p.fees),(ER p.rules))) 2 fun w=>∃ m:Nat,m <= p.rules.length /\ w = ((m:Int),p.name,p.cur,p.cal,p.from_,p.every,p.over,p.tax,(ETr p.cr.tiers),p.cr.marg,p.cr.basis,p.cr.mode,p.cr.keep,(ETr p.de.tiers),p.de.marg,p.de.basis,p.de.mode,p.de.keep,(EF p.fees),(ER p.rules)):=by
  rw [qtW]
  refine qaZ (fun n:Nat=>((n:Int),p.name,p.cur,p.cal,p.from_,p.every,p.over,p.tax,(ETr p.cr.tiers),p.cr.marg,p.cr.basis,p.cr.mode,p.cr.keep,(ETr p.de.tiers),p.de.marg,p.de.basis,p.de.mode,p.de.keep,(EF p.fees),(ER p.rules))) p.rules.length 2 (fun n _=>?_) 0 (Nat.zero_le _)
  simp only [qre,qvs]
  by_cases hn:n < p.rules.length
  ·have hw:=hp.rules _ (List.getElem_mem hn)
   have hf:=hp.rul
   refine qaB (qds hn) (qaB (okR hn) ?_)
   simp only [qr0 hn,qr2 hn,qr3 hn,qr4 hn,qr5 hn]
   (repeat' (first | exact qak trivial | exact qan trivial | exact qap (by decide) | exact qaW ⟨hn,by simp only [qaP hn hf]⟩ | refine qaB (okR hn) ?_ | refine qaE (okR hn) ?_ | refine qao (Q:=fun _=>True) (qbl hw) (fun _ _=>?_) | refine qaB (qaG (qbl hw)) ?_ | refine qaE (qaG (qbl hw)) ?_ | refine qao (Q:=fun _=>True) ?_ (fun _ _=>?_) | refine qaq (fun _=>?_) (fun _=>?_) | refine qax (fun _=>?_) (fun _=>?_)))
  ·exact qcy (qdr hn) (qap (by decide))
 rw [qAS,qku]
 refine qbx (qbw _ _) (qbx (qbw _ _) (qbx (qbw _ _) (qbx (qbw _ _) (qbx (qbw _ _) (qbx (qbw _ _) (qaq (fun _=>qak fun h=>by cases h) (fun h=>?_)))))))
 simp only [Bool.or_eq_false_iff,decide_eq_false_iff_not,List.length_map] at h
 have hs:SmP p:=⟨by omega,by omega,by omega,by omega⟩
 refine qa9 h0 (fun _ _=>qak fun _=>hs) ?_
 rintro _ ⟨m,_,rfl⟩
 exact qa9 h1 (fun _ _=>qak fun _=>hs) (fun _ _=>qak fun _=>hs)
theorem qfO {x:Enr} (hl:x.legs.length <= 9223372036854775807):Ok (qlZ x.id x.booked x.value x.kind x.auth x.period x.key x.text (ELg x.legs) x.chain) fun _=>True:=by
 have h0:Lo (qt9 (0,x.id,x.booked,x.value,x.kind,x.auth,x.period,x.key,x.text,(ELg x.legs),x.chain)) 2 fun w=>∃ m:Nat,m <= x.legs.length /\ w = ((m:Int),x.id,x.booked,x.value,x.kind,x.auth,x.period,x.key,x.text,(ELg x.legs),x.chain):=by
  rw [qua]
  refine qaZ (fun n:Nat=>((n:Int),x.id,x.booked,x.value,x.kind,x.auth,x.period,x.key,x.text,(ELg x.legs),x.chain)) x.legs.length 2 (fun n _=>?_) 0 (Nat.zero_le _)
  simp only [qrm,qvA]
  by_cases hn:n < x.legs.length
  ·refine qaB (qds hn) ?_
   (repeat' (first | exact qak trivial | exact qan trivial | exact qap (by decide) | exact qaW ⟨hn,by simp only [qaP hn hl]⟩ | refine qaB (qIt hn) ?_ | refine qaE (qIt hn) ?_ | refine qao (Q:=fun _=>True) ?_ (fun _ _=>?_) | refine qaq (fun _=>?_) (fun _=>?_) | refine qax (fun _=>?_) (fun _=>?_)))
  ·exact qcy (qdr hn) (qap (by decide))
 rw [qAY,qkz]
 (repeat' (first | refine qa9 ( h0) (fun _ _=>?_) (fun _ _=>?_) | exact qak trivial | exact qan trivial | exact qap (by decide) | refine qao (Q:=fun _=>True) ?_ (fun _ _=>?_) | refine qaq (fun _=>?_) (fun _=>?_) | refine qax (fun _=>?_) (fun _=>?_)))
def Sz (cu:List Cu) (ca:List Cal) (ch:List Gl) (pr:List Pr) (ac:List Acc) (jr:List Enr) (ho:List Hol) (bl:List Blo):Prop:=
 cu.length <= 20 /\ ca.length <= 10 /\ ch.length <= 60 /\ pr.length <= 20 /\ ac.length <= 40 /\ jr.length <= 150 /\ ho.length <= 100 /\ bl.length <= 100
set_option maxHeartbeats 1000000 in
theorem qst {cu:List Cu} {ca:List Cal} {ch:List Gl} {a3 a4 a5 a6 a7 a8 a9 a10 a11 a12 a13 a14 a15 a16:Int} {pr:List Pr} {ac:List Acc} {jr:List Enr} {ho:List Hol} {bl:List Blo} (hP:∀ p ∈ pr,PrB p) (hJ:∀ x ∈ jr,x.legs.length <= 9223372036854775807):Ok (ql4 (EC cu) (EK ca) (EGl ch) a3 a4 a5 a6 a7 a8 a9 a10 a11 a12 a13 a14 a15 a16 (EPr pr) (EAc ac) (EJr jr) (EHo ho) (EBl bl)) fun y=>y = false -> Sz cu ca ch pr ac jr ho bl /\ ∀ p ∈ pr,SmP p:=by
 have h0:pr.length <= 20 -> Lo' (quk (0,EC cu,EK ca,EGl ch,a3,a4,a5,a6,a7,a8,a9,a10,a11,a12,a13,a14,a15,a16,EPr pr,EAc ac,EJr jr,EHo ho,EBl bl)) 2 fun k w=>∃ m:Nat,m <= pr.length /\ w = ((m:Int),EC cu,EK ca,EGl ch,a3,a4,a5,a6,a7,a8,a9,a10,a11,a12,a13,a14,a15,a16,EPr pr,EAc ac,EJr jr,EHo ho,EBl bl) /\ (k = 1 -> ∀ p ∈ pr,SmP p):=by
  intro hb
  rw [qul]
  refine qxl (fun n:Nat=>((n:Int),EC cu,EK ca,EGl ch,a3,a4,a5,a6,a7,a8,a9,a10,a11,a12,a13,a14,a15,a16,EPr pr,EAc ac,EJr jr,EHo ho,EBl bl)) pr.length 2 (qXB SmP pr) (fun k _=>k = 1 -> ∀ p ∈ pr,SmP p) (fun n _ hj=>?_) 0 (Nat.zero_le _) (qTn _ _)
  simp only [qru,qvG]
  by_cases hn:n < pr.length
  ·refine qaB (qds hn) (qaB (qsg hn) ?_)
   simp only [qMV hn,qXo hn,qXp hn,qCM hn,qXq hn,qXr hn,qXs hn,qXt hn,qXu hn,qXv hn,qCh hn,qCi hn,qCj hn,qCk hn,qCl hn,qCm hn,qCn hn,qCo hn,qCp hn]
   refine qao (qsl (hP _ (List.getElem_mem hn))) (fun y hy=>qaq (fun _=>qap ⟨by decide,fun h=>by cases h⟩) (fun h=>qaW ⟨⟨hn,?_⟩,qTo hj hn (hy h)⟩))
   simp only [qaP hn (N:=pr.length) (by omega)]
  ·have:n = pr.length:=by omega
   subst this
   exact qcy (qdr hn) (qap ⟨by decide,fun _=>qz5 hj⟩)
 have h1:jr.length <= 150 -> Lo (qum (0,EC cu,EK ca,EGl ch,a3,a4,a5,a6,a7,a8,a9,a10,a11,a12,a13,a14,a15,a16,EPr pr,EAc ac,EJr jr,EHo ho,EBl bl)) 2 fun w=>∃ m:Nat,m <= jr.length /\ w = ((m:Int),EC cu,EK ca,EGl ch,a3,a4,a5,a6,a7,a8,a9,a10,a11,a12,a13,a14,a15,a16,EPr pr,EAc ac,EJr jr,EHo ho,EBl bl):=by
  intro hb
  have h9:jr.length <= 9223372036854775807:=by omega
  rw [qun]
  refine qaZ (fun n:Nat=>((n:Int),EC cu,EK ca,EGl ch,a3,a4,a5,a6,a7,a8,a9,a10,a11,a12,a13,a14,a15,a16,EPr pr,EAc ac,EJr jr,EHo ho,EBl bl)) jr.length 2 (fun n _=>?_) 0 (Nat.zero_le _)
  simp only [qrv,qvH]
  by_cases hn:n < jr.length
  ·refine qaB (qds hn) (qaB (qZt hn) ?_)
   simp only [q45 hn,q46 hn,q47 hn,q48 hn,q49 hn,q5a hn,q5b hn,q5c hn,q2R hn,q5d hn]
   (repeat' (first | exact qak trivial | exact qan trivial | exact qap (by decide) | exact qaW ⟨hn,by simp only [qaP hn h9]⟩ | refine qao (Q:=fun _=>True) (qfO (hJ _ (List.getElem_mem hn))) (fun _ _=>?_) | refine qaB (qaG (qfO (hJ _ (List.getElem_mem hn)))) ?_ | refine qaE (qaG (qfO (hJ _ (List.getElem_mem hn)))) ?_ | refine qao (Q:=fun _=>True) ?_ (fun _ _=>?_) | refine qaq (fun _=>?_) (fun _=>?_) | refine qax (fun _=>?_) (fun _=>?_)))
  ·exact qcy (qdr hn) (qap (by decide))
 have h2:ca.length <= 10 -> Lo (qup (0,EC cu,EK ca,EGl ch,a3,a4,a5,a6,a7,a8,a9,a10,a11,a12,a13,a14,a15,a16,EPr pr,EAc ac,EJr jr,EHo ho,EBl bl)) 2 fun w=>∃ m:Nat,m <= ca.length /\ w = ((m:Int),EC cu,EK ca,EGl ch,a3,a4,a5,a6,a7,a8,a9,a10,a11,a12,a13,a14,a15,a16,EPr pr,EAc ac,EJr jr,EHo ho,EBl bl):=by
  intro hb
  have h9:ca.length <= 9223372036854775807:=by omega
  rw [quq]
  refine qaZ (fun n:Nat=>((n:Int),EC cu,EK ca,EGl ch,a3,a4,a5,a6,a7,a8,a9,a10,a11,a12,a13,a14,a15,a16,EPr pr,EAc ac,EJr jr,EHo ho,EBl bl)) ca.length 2 (fun n _=>?_) 0 (Nat.zero_le _)
  simp only [qrw,qvI]
  by_cases hn:n < ca.length
  ·refine qaB (qds hn) ?_
   (repeat' (first | exact qak trivial | exact qan trivial | exact qap (by decide) | exact qaW ⟨hn,by simp only [qaP hn h9]⟩ | refine qaB (okK hn) ?_ | refine qaE (okK hn) ?_ | refine qao (Q:=fun _=>True) ?_ (fun _ _=>?_) | refine qaq (fun _=>?_) (fun _=>?_) | refine qax (fun _=>?_) (fun _=>?_)))
  ·exact qcy (qdr hn) (qap (by decide))
 rw [qA9,qkJ]
 refine qbx (qbw _ _) (qbx (qbw _ _) (qbx (qbw _ _) (qbx (qbw _ _) (qbx (qbw _ _) ?_))))
 obtain ⟨v,hv,hvq⟩:=qso ho
 rw [hv]
 refine qbx (b:=_ || v) (qbw _ _) (qbx (qbw _ _) (qaq (fun _=>qak fun h=>by cases h) (fun h=>?_)))
 simp only [Bool.or_eq_false_iff,decide_eq_false_iff_not,List.length_map] at h
 have hh:=hvq h.1.2
 have hs:Sz cu ca ch pr ac jr ho bl:=⟨by omega,by omega,by omega,by omega,by omega,by omega,by omega,by omega⟩
 refine qjB (h0 (by omega)) (fun _ _=>qak fun h=>by cases h) ?_
 rintro _ ⟨m,_,rfl,hq⟩
 refine qa9 (h1 (by omega)) (fun _ _=>qak fun h=>by cases h) ?_
 rintro _ ⟨m,_,rfl⟩
 exact qa9 (h2 (by omega)) (fun _ _=>qak fun h=>by cases h) (fun _ _=>qak fun _=>⟨hs,hq rfl⟩)
theorem qOg {cu:List Cu} {ca:List Cal} {ch:List Gl} {a3 a4 a5 a6 a7 a8 a9 a10 a11 a12 a13 a14 a15 a16:Int} {pr:List Pr} {ac:List Acc} {jr:List Enr} {ho:List Hol} {bl:List Blo}:Ok (qg8 (EC cu) (EK ca) (EGl ch) a3 a4 a5 a6 a7 a8 a9 a10 a11 a12 a13 a14 a15 a16 (EPr pr) (EAc ac) (EJr jr) (EHo ho) (EBl bl)) fun y=>y = true -> ac.length <= 12 /\ jr.length <= 60 /\ ∀ x ∈ jr,x.legs.length <= 20:=by
 have h0:jr.length <= 60 -> Lo' (qtz (0,EC cu,EK ca,EGl ch,a3,a4,a5,a6,a7,a8,a9,a10,a11,a12,a13,a14,a15,a16,EPr pr,EAc ac,EJr jr,EHo ho,EBl bl)) 2 fun k w=>∃ m:Nat,m <= jr.length /\ w = ((m:Int),EC cu,EK ca,EGl ch,a3,a4,a5,a6,a7,a8,a9,a10,a11,a12,a13,a14,a15,a16,EPr pr,EAc ac,EJr jr,EHo ho,EBl bl) /\ (k = 1 -> ∀ x ∈ jr,x.legs.length <= 20):=by
  intro hb
  rw [qtA]
  refine qxl (fun n:Nat=>((n:Int),EC cu,EK ca,EGl ch,a3,a4,a5,a6,a7,a8,a9,a10,a11,a12,a13,a14,a15,a16,EPr pr,EAc ac,EJr jr,EHo ho,EBl bl)) jr.length 2 (qXB (fun x:Enr=>x.legs.length <= 20) jr) (fun k _=>k = 1 -> ∀ x ∈ jr,x.legs.length <= 20) (fun n _ hj=>?_) 0 (Nat.zero_le _) (qTn _ _)
  simp only [qq7,qvl]
  by_cases hn:n < jr.length
  ·refine qaB (qds hn) (qaB (qZt hn) ?_)
   simp only [q2R hn,List.length_map]
   refine qaq (fun _=>qap ⟨by decide,fun h=>by cases h⟩) (fun h=>qaW ⟨⟨hn,?_⟩,qTo hj hn (by have:=of_decide_eq_false h; omega)⟩)
   simp only [qaP hn (N:=jr.length) (by omega)]
  ·have:n = jr.length:=by omega
   subst this
   exact qcy (qdr hn) (qap ⟨by decide,fun _=>qz5 hj⟩)
 rw [qAH,qkk]
 refine qbx (qbw _ _) (qaq (fun _=>qak fun h=>by cases h) (fun h=>?_))
 simp only [Bool.or_eq_false_iff,decide_eq_false_iff_not,List.length_map] at h
 refine qjB (h0 (by omega)) (fun _ _=>qak fun h=>by cases h) ?_
 rintro _ ⟨m,_,rfl,hq⟩
 exact qak fun _=>⟨by omega,by omega,hq rfl⟩
end Go.Proofs.H53z
namespace Go.Proofs.H53z
open Go Go.Eng Go.Tk
set_option maxRecDepth 20000
theorem qsj {s:Bs} (h9:s.length <= 9223372036854775807):Ok (qlR s) fun _=>True:=by
 have hl:Lo (qtG (s,0)) 2 fun w=>∃ m:Nat,m <= s.length /\ w = (s,(m:Int)):=by
  rw [qtH]
  refine qaZ (fun n:Nat=>(s,(n:Int))) s.length 2 (fun n _=>?_) 0 (Nat.zero_le _)
  simp only [qrc,qvq]
  by_cases hn:n < s.length
  ·refine qaB (decide_eq_true (by omega)) ?_
   (repeat' (first | exact qak trivial | exact qan trivial | exact qap (by decide) | exact qaW ⟨hn,by simp only [qaP hn h9]⟩ | refine qaB (qbG hn) ?_ | refine qaE (qbG hn) ?_ | refine qao (Q:=fun _=>True) ?_ (fun _ _=>?_) | refine qaq (fun _=>?_) (fun _=>?_) | refine qax (fun _=>?_) (fun _=>?_)))
  ·exact qcy (decide_eq_false (by omega)) (qap (by decide))
 rw [qAL,qko]
 (repeat' (first | refine qa9 ( hl) (fun _ _=>?_) (fun _ _=>?_) | exact qak trivial | exact qan trivial | exact qap (by decide) | refine qao (Q:=fun _=>True) ?_ (fun _ _=>?_) | refine qaq (fun _=>?_) (fun _=>?_) | refine qax (fun _=>?_) (fun _=>?_)))
theorem qTm (x:Int):0 <= IntKind.wrap .u8 x /\ IntKind.wrap .u8 x < 256:=by
 have h:IntKind.wrap .u8 x = x % 256:=by
  simp [IntKind.wrap,IntKind.signed,IntKind.bits]
 rw [h]; omega
theorem qwb {s:Bs} (h9:s.length <= 9223372036854775807):Ok (qmb s) fun (y:Int)=>0 <= y /\ y < 97:=by
 have hl:Lo' (qqu (s,0,0)) 1 fun k w=>∃ (m:Nat) (r:Int),m <= s.length /\ w = (s,r,(m:Int)) /\ (0 <= r /\ r < 97) /\ True:=by
  rw [qoY]
  refine qnc (fun (n:Nat) (r:Int)=>(s,r,(n:Int))) s.length 1 (fun _ r=>0 <= r /\ r < 97) (fun _ _ _=>True) (fun n r _ hr=>?_) 0 0 (Nat.zero_le _) (by decide)
  simp only [qj1,qpA]
  by_cases hn:n < s.length
  ·obtain ⟨hr0,hr1⟩:=hr
   refine qaB (decide_eq_true (by omega)) (qaB (qbG hn) (qaq (fun _=>?_) (fun _=>?_)))
   ·refine qaB (qbG hn) (qaW ⟨hn,(IntKind.wrap .i64 (IntKind.wrap .i64 (10 * r) + IntKind.wrap .i64 (IntKind.wrap .u8 (qaK s n - 48)))).tmod 97,by simp only [qaP hn h9],?_⟩)
    have hu:=qTm (qaK s n - 48)
    generalize IntKind.wrap .u8 (qaK s n - 48) = u at hu ⊢
    rw [wrap64 (n:=10 * r) (by omega) (by omega),wrap64 (n:=u) (by omega) (by omega),wrap64 (by omega) (by omega)]
    exact ⟨Int.tmod_nonneg _ (by omega),Int.tmod_lt_of_pos _ (by decide)⟩
   ·refine qaB (qbG hn) (qaW ⟨hn,(IntKind.wrap .i64 (IntKind.wrap .i64 (IntKind.wrap .i64 (100 * r) + IntKind.wrap .i64 (IntKind.wrap .u8 (qaK s n - 65))) + 10)).tmod 97,by simp only [qaP hn h9],?_⟩)
    have hu:=qTm (qaK s n - 65)
    generalize IntKind.wrap .u8 (qaK s n - 65) = u at hu ⊢
    rw [wrap64 (n:=100 * r) (by omega) (by omega),wrap64 (n:=u) (by omega) (by omega),wrap64 (n:=100 * r + u) (by omega) (by omega),wrap64 (by omega) (by omega)]
    exact ⟨Int.tmod_nonneg _ (by omega),Int.tmod_lt_of_pos _ (by decide)⟩
  ·exact qcy (decide_eq_false (by omega)) (qap ⟨by decide,trivial⟩)
 rw [qBi,qkS]
 refine qIw hl ?_
 rintro _ ⟨m,r,_,rfl,hr,_⟩
 exact qak hr
theorem qwv (d:Int) (h0:0 <= d) (h1:d < 10):(leB (d + 1) 10 && leB d (d + 1).toNat) = true /\ (List.take ((d + 1).toNat - d.toNat) (List.drop d.toNat ([48,49,50,51,52,53,54,55,56,57]:Bs))).length <= 1:=by
 refine ⟨by simp [leB]; omega,?_⟩
 rw [List.length_take]; omega
theorem qwa {s:Bs} (h9:s.length <= 1000):Ok (qma s) fun _=>True:=by
 rw [qBh,qkR]
 refine qao (Q:=fun _=>True) (by (repeat' (first | exact qak trivial | exact qan trivial | exact qap (by decide) | refine qao (Q:=fun _=>True) ?_ (fun _ _=>?_) | refine qaq (fun _=>?_) (fun _=>?_) | refine qax (fun _=>?_) (fun _=>?_)))) (fun _ _=>qaq (fun _=>qak trivial) (fun _=>qao (qsj (s:=s) (by omega)) (fun _ _=>qaq (fun _=>qak trivial) (fun _=>qaB (decide_eq_true (by omega)) ?_))))
 refine qao (qwb (s:=s ++ [48,48]) (by simp; omega)) (fun (y:Int) hy=>?_)
 obtain ⟨hy0,hy1⟩:=hy
 have e1:IntKind.wrap .i64 (98 - y) = 98 - y:=wrap64 (by omega) (by omega)
 have d1:=Int.tdiv_eq_ediv_of_nonneg (a:=98 - y) (by omega) (b:=10)
 have m1:=Int.tmod_eq_emod_of_nonneg (a:=98 - y) (by omega) (b:=10)
 have e2:IntKind.wrap .i64 ((98 - y).tdiv 10) = (98 - y) / 10:=by rw [d1]; exact wrap64 (by omega) (by omega)
 have e3:IntKind.wrap .i64 ((98 - y) / 10 + 1) = (98 - y) / 10 + 1:=wrap64 (by omega) (by omega)
 have e4:IntKind.wrap .i64 ((98 - y) % 10 + 1) = (98 - y) % 10 + 1:=wrap64 (by omega) (by omega)
 simp only [e1,e2,e3,m1,e4]
 obtain ⟨f1,f2⟩:=qwv ((98 - y) / 10) (by omega) (by omega)
 obtain ⟨f3,f4⟩:=qwv ((98 - y) % 10) (by omega) (by omega)
 refine qaB f1 (qaB (decide_eq_true (by omega)) (qaB f3 (qaB (decide_eq_true ?_) (qak trivial))))
 rw [List.length_append]; omega
theorem qp5 (id:Int):Ok (qlM id) fun _=>True:=by
 rw [qAC,qkg]
 refine qbx (qbw _ _) (qaq (fun _=>qak trivial) (fun h=>?_))
 simp only [Bool.or_eq_false_iff,decide_eq_false_iff_not] at h
 have hl:Lo' (qy5 (id,[],0)) 1 fun k w=>∃ (m:Nat) (s':Int × Bs),m <= 8 /\ w = (s'.1,s'.2,(m:Int)) /\ (0 <= s'.1 /\ s'.1 <= 99999999 /\ s'.2.length <= m) /\ True:=by
  rw [qtw]
  refine qnc (fun (n:Nat) (s:Int × Bs)=>(s.1,s.2,(n:Int))) 8 1 (fun n s=>0 <= s.1 /\ s.1 <= 99999999 /\ s.2.length <= n) (fun _ _ _=>True) (fun n s _ hs=>?_) 0 (id,[]) (Nat.zero_le _) ⟨by omega,by omega,by simp⟩
  obtain ⟨x,t⟩:=s
  obtain ⟨h0,h1,h2⟩:=hs
  simp only at h0 h1 h2
  simp only [qq5,qvk]
  by_cases hn:n < 8
  ·have m1:=Int.tmod_eq_emod_of_nonneg (a:=x) h0 (b:=10)
   have d1:=Int.tdiv_eq_ediv_of_nonneg (a:=x) h0 (b:=10)
   have e4:IntKind.wrap .i64 (x % 10 + 1) = x % 10 + 1:=wrap64 (by omega) (by omega)
   have e5:IntKind.wrap .i64 (x / 10) = x / 10:=wrap64 (by omega) (by omega)
   simp only [m1,d1,e4,e5]
   obtain ⟨f1,f2⟩:=qwv (x % 10) (by omega) (by omega)
   refine qaB (decide_eq_true (by omega)) (qaB f1 (qaB (decide_eq_true (by omega)) (qaW ⟨hn,(_,_),by simp only [qaP hn (by decide:8 <= 9223372036854775807)]; rfl,?_⟩)))
   refine ⟨by show 0 <= x / 10; omega,by show x / 10 <= _; omega,?_⟩
   show (_ ++ t).length <= _
   rw [List.length_append]; omega
  ·exact qcy (decide_eq_false (by omega)) (qap ⟨by decide,trivial⟩)
 refine qIw hl ?_
 rintro _ ⟨m,⟨x,t⟩,hm,rfl,⟨_,_,h2⟩,_⟩
 simp only at h2
 refine qaB (decide_eq_true (by simp only; omega)) (qao (qwa (s:=[67,66] ++ t) (by simp; omega)) (fun _ _=>qak trivial))
theorem qp6 (a:Acc):Ok (qlN a.id a.opened a.closed a.extra a.owner a.prod a.number) fun y=>y = true -> a.id >= 1000:=by
 rw [qAD,qkh]
 refine qaq (fun h=>?_) (fun _=>qak fun h=>by cases h)
 have h:=of_decide_eq_true h
 refine qaq (fun _=>qao (qaT _) (fun _ _=>qaq (fun _=>qao (qp5 _) (fun _ _=>qak fun _=>h)) (fun _=>qak fun h=>by cases h))) (fun _=>qak fun h=>by cases h)
theorem qlo {l:List Pr} (h9:l.length <= 9223372036854775807) (nm:Bs) (day:Int):Ok (qhl (EPr l) nm day) fun _=>True:=by
 have hl:Lo' (qmR (EPr l,nm,day,-1,0,[],[],[],0,0,0,0,false,0,0,false,false,0,0,false)) 1 fun k w=>∃ (m:Nat) (a:Int),m <= l.length /\ w = (EPr l,nm,day,a,(m:Int),[],[],[],0,0,0,0,false,0,0,false,false,0,0,false) /\ (a < 0 \/ ∃ i:Nat,i < l.length /\ a = i) /\ True:=by
  rw [qiV]
  refine qnc (fun (n:Nat) (a:Int)=>(EPr l,nm,day,a,(n:Int),[],[],[],0,0,0,0,false,0,0,false,false,0,0,false)) l.length 1 (fun _ a=>a < 0 \/ ∃ i:Nat,i < l.length /\ a = i) (fun _ _ _=>True) (fun n a _ ha=>?_) 0 (-1) (Nat.zero_le _) (.inl (by decide))
  simp only [qdZ,qes]
  by_cases hn:n < l.length
  ·have hu:(n:Int) < 0 \/ ∃ i:Nat,i < l.length /\ (n:Int) = i:=.inr ⟨n,hn,rfl⟩
   refine qaB (qds hn) (qaB (qsg hn) (qaq (fun _=>qaB (qsg hn) (qaq (fun _=>qaq (fun _=>qaW ⟨hn,_,by simp only [qaP hn h9],hu⟩) (fun h=>?_)) (fun _=>qaW ⟨hn,_,by simp only [qaP hn h9],ha⟩))) (fun _=>qaW ⟨hn,_,by simp only [qaP hn h9],ha⟩)))
   rcases ha with ha | ⟨i,hi,rfl⟩
   ·exact absurd ha (of_decide_eq_false h)
   ·exact qaB (qsg hn) (qaB (qsg hi) (qaq (fun _=>qaW ⟨hn,_,by simp only [qaP hn h9],hu⟩) (fun _=>qaW ⟨hn,_,by simp only [qaP hn h9],.inr ⟨i,hi,rfl⟩⟩)))
  ·exact qcy (qdr hn) (qap ⟨by decide,trivial⟩)
 rw [qoB,qio]
 refine qIw hl ?_
 rintro _ ⟨m,a,hm,rfl,ha,_⟩
 refine qaq (fun _=>qak trivial) (fun h=>?_)
 rcases ha with ha | ⟨i,hi,rfl⟩
 ·exact absurd ha (of_decide_eq_false h)
 ·exact qaB (qsg hi) (qak trivial)
theorem qss {cu:List Cu} {ca:List Cal} {ch:List Gl} {a3 a4 a5 a6 a7 a8 a9 a10 a11 a12 a13 a14 a15 a16:Int} {pr:List Pr} {ac:List Acc} {jr:List Enr} {ho:List Hol} {bl:List Blo} (h9:pr.length <= 9223372036854775807) (a:Acc):Ok (qc8 (EC cu) (EK ca) (EGl ch) a3 a4 a5 a6 a7 a8 a9 a10 a11 a12 a13 a14 a15 a16 (EPr pr) (EAc ac) (EJr jr) (EHo ho) (EBl bl) a.id a.opened a.closed a.extra a.owner a.prod a.number) fun _=>True:=by
 rw [qA6,qkH]
 (repeat' (first | exact qak trivial | exact qan trivial | exact qap (by decide) | refine qao (Q:=fun _=>True) ((⟨_,qcM _,trivial⟩:Ok (qdE a.owner) fun _=>True)) (fun _ _=>?_) | refine qaB (qaG ((⟨_,qcM _,trivial⟩:Ok (qdE a.owner) fun _=>True))) ?_ | refine qaE (qaG ((⟨_,qcM _,trivial⟩:Ok (qdE a.owner) fun _=>True))) ?_ | refine qao (Q:=fun _=>True) (qlo h9 _ _) (fun _ _=>?_) | refine qaB (qaG (qlo h9 _ _)) ?_ | refine qaE (qaG (qlo h9 _ _)) ?_ | refine qao (Q:=fun _=>True) ?_ (fun _ _=>?_) | refine qaq (fun _=>?_) (fun _=>?_) | refine qax (fun _=>?_) (fun _=>?_)))
theorem qcT {s:Bs} (h9:s.length <= 9223372036854775807) (a b:Int):Ok (qmq s a b) fun _=>True:=by
 have hl:Lo (qtj (s,b,0)) 2 fun w=>∃ m:Nat,m <= s.length /\ w = (s,b,(m:Int)):=by
  rw [qtk]
  refine qaZ (fun n:Nat=>(s,b,(n:Int))) s.length 2 (fun n _=>?_) 0 (Nat.zero_le _)
  simp only [qq0,qvd]
  by_cases hn:n < s.length
  ·refine qaB (decide_eq_true (by omega)) ?_
   (repeat' (first | exact qak trivial | exact qan trivial | exact qap (by decide) | exact qaW ⟨hn,by simp only [qaP hn h9]⟩ | refine qaB (qbG hn) ?_ | refine qaE (qbG hn) ?_ | refine qao (Q:=fun _=>True) ?_ (fun _ _=>?_) | refine qaq (fun _=>?_) (fun _=>?_) | refine qax (fun _=>?_) (fun _=>?_)))
  ·exact qcy (decide_eq_false (by omega)) (qap (by decide))
 rw [qFB,qr7]
 (repeat' (first | refine qa9 ( hl) (fun _ _=>?_) (fun _ _=>?_) | exact qak trivial | exact qan trivial | exact qap (by decide) | refine qao (Q:=fun _=>True) ?_ (fun _ _=>?_) | refine qaq (fun _=>?_) (fun _=>?_) | refine qax (fun _=>?_) (fun _=>?_)))
theorem qgx {s:Bs} (h9:s.length <= 9223372036854775807):Ok (qiN s) fun _=>True:=by
 rw [qBA,qlc]
 (repeat' (first | exact qak trivial | exact qan trivial | exact qap (by decide) | refine qao (Q:=fun _=>True) (qcT h9 _ _) (fun _ _=>?_) | refine qaB (qaG (qcT h9 _ _)) ?_ | refine qaE (qaG (qcT h9 _ _)) ?_ | refine qao (Q:=fun _=>True) ?_ (fun _ _=>?_) | refine qaq (fun _=>?_) (fun _=>?_) | refine qax (fun _=>?_) (fun _=>?_)))
theorem qg2 (s:Bs):Ok (qmh s) fun _=>True:=by
 rw [qBu,qk6]
 refine qaq (fun _=>qak trivial) (fun h=>?_)
 have hs:s.length = 3:=by have:((s.length:Nat):Int) = 3:=(by simpa using h); omega
 have h9:s.length <= 9223372036854775807:=by omega
 have hl:Lo (qmL (s,0)) 2 fun w=>∃ m:Nat,m <= s.length /\ w = (s,(m:Int)):=by
  rw [qo4]
  refine qaZ (fun n:Nat=>(s,(n:Int))) s.length 2 (fun n _=>?_) 0 (Nat.zero_le _)
  simp only [qj4,qpF]
  by_cases hn:n < s.length
  ·refine qaB (decide_eq_true (by omega)) ?_
   (repeat' (first | exact qak trivial | exact qan trivial | exact qap (by decide) | exact qaW ⟨hn,by simp only [qaP hn h9]⟩ | refine qaB (qbG hn) ?_ | refine qaE (qbG hn) ?_ | refine qao (Q:=fun _=>True) ?_ (fun _ _=>?_) | refine qaq (fun _=>?_) (fun _=>?_) | refine qax (fun _=>?_) (fun _=>?_)))
  ·exact qcy (decide_eq_false (by omega)) (qap (by decide))
 (repeat' (first | refine qa9 ( hl) (fun _ _=>?_) (fun _ _=>?_) | exact qak trivial | exact qan trivial | exact qap (by decide) | refine qao (Q:=fun _=>True) ?_ (fun _ _=>?_) | refine qaq (fun _=>?_) (fun _=>?_) | refine qax (fun _=>?_) (fun _=>?_)))
theorem qir (x:Leg):Ok (qhj x.acc x.amt x.cur) fun _=>True:=by
 rw [qBD,qlf]
 (repeat' (first | exact qak trivial | exact qan trivial | exact qap (by decide) | refine qao (Q:=fun _=>True) (qg2 _) (fun _ _=>?_) | refine qaB (qaG (qg2 _)) ?_ | refine qaE (qaG (qg2 _)) ?_ | refine qao (Q:=fun _=>True) ?_ (fun _ _=>?_) | refine qaq (fun _=>?_) (fun _=>?_) | refine qax (fun _=>?_) (fun _=>?_)))
end Go.Proofs.H53z
namespace Go.Proofs.H53z
open Go Go.Eng Go.Tk
set_option maxRecDepth 20000
theorem qAc {h:Hol} (h9:h.key.length <= 9223372036854775807):Ok (qhk h.id h.acc h.amt h.from_ h.to_ h.key) fun _=>True:=by
 rw [qBE,qlg]
 (repeat' (first | exact qak trivial | exact qan trivial | exact qap (by decide) | refine qao (Q:=fun _=>True) (qaT _) (fun _ _=>?_) | refine qaB (qaG (qaT _)) ?_ | refine qaE (qaG (qaT _)) ?_ | refine qao (Q:=fun _=>True) (qgx h9) (fun _ _=>?_) | refine qaB (qaG (qgx h9)) ?_ | refine qaE (qaG (qgx h9)) ?_ | refine qao (Q:=fun _=>True) ?_ (fun _ _=>?_) | refine qaq (fun _=>?_) (fun _=>?_) | refine qax (fun _=>?_) (fun _=>?_)))
theorem qsp {l:List Hol} (h9:l.length <= 9223372036854775807) (s:Bs):Ok (qhc (EHo l) s) fun _=>True:=by
 have hl:Lo (qug (EHo l,s,0)) 2 fun w=>∃ m:Nat,m <= l.length /\ w = (EHo l,s,(m:Int)):=by
  rw [quh]
  refine qaZ (fun n:Nat=>(EHo l,s,(n:Int))) l.length 2 (fun n _=>?_) 0 (Nat.zero_le _)
  simp only [qrr,qvD]
  by_cases hn:n < l.length
  ·refine qaB (qds hn) ?_
   (repeat' (first | exact qak trivial | exact qan trivial | exact qap (by decide) | exact qaW ⟨hn,by simp only [qaP hn h9]⟩ | refine qaB (qCJ hn) ?_ | refine qaE (qCJ hn) ?_ | refine qao (Q:=fun _=>True) ?_ (fun _ _=>?_) | refine qaq (fun _=>?_) (fun _=>?_) | refine qax (fun _=>?_) (fun _=>?_)))
  ·exact qcy (qdr hn) (qap (by decide))
 rw [qA3,qkE]
 (repeat' (first | refine qa9 ( hl) (fun _ _=>?_) (fun _ _=>?_) | exact qak trivial | exact qan trivial | exact qap (by decide) | refine qao (Q:=fun _=>True) ?_ (fun _ _=>?_) | refine qaq (fun _=>?_) (fun _=>?_) | refine qax (fun _=>?_) (fun _=>?_)))
set_option maxHeartbeats 4000000 in
theorem qsn {l:List Hol} (h9:l.length <= 9223372036854775807) (hk:∀ h ∈ l,h.key.length <= 9223372036854775807):Ok (qiE (EHo l)) fun _=>True:=by
 have hl:Lo (qm2 (EHo l,0)) 4 fun w=>∃ m:Nat,m <= l.length /\ w = (EHo l,(m:Int)):=by
  rw [quc]
  refine qaZ (fun n:Nat=>(EHo l,(n:Int))) l.length 4 (fun n _=>?_) 0 (Nat.zero_le _)
  simp only [qro,qvB]
  by_cases hn:n < l.length
  ·have ht:∀ s,Ok (qhc (List.take ((n:Int)).toNat (EHo l)) s) fun _=>True:=fun s=>by
    rw [qvR]; exact qsp (by rw [List.length_take]; omega) s
   have ho:=qAc (hk _ (List.getElem_mem hn))
   refine qaB (qds hn) ?_
   simp only [q8a hn,q41 hn,q42 hn,q43 hn,q44 hn,q8b hn]
   by_cases h0:0 < n
   ·have hp:qaw q4e (EHo l) (IntKind.wrap .i64 ((n:Int) - 1)) = true:=qgm q6c hn h0 h9
    (repeat' (first | exact qak trivial | exact qan trivial | exact qap (by decide) | exact qaW ⟨hn,by simp only [qaP hn h9]⟩ | refine qaB (qCJ hn) ?_ | refine qaE (qCJ hn) ?_ | refine qaB (hp) ?_ | refine qaE (hp) ?_ | refine qaB (leE (Nat.le_of_lt hn)) ?_ | refine qaE (leE (Nat.le_of_lt hn)) ?_ | refine qao (Q:=fun _=>True) (ho) (fun _ _=>?_) | refine qaB (qaG (ho)) ?_ | refine qaE (qaG (ho)) ?_ | refine qao (Q:=fun _=>True) (ht _) (fun _ _=>?_) | refine qaB (qaG (ht _)) ?_ | refine qaE (qaG (ht _)) ?_ | refine qao (Q:=fun _=>True) ?_ (fun _ _=>?_) | refine qaq (fun _=>?_) (fun _=>?_) | refine qax (fun _=>?_) (fun _=>?_)))
   ·have e0:decide ((n:Int) > 0) = false:=decide_eq_false (by omega)
    (repeat' (first | exact qak trivial | exact qan trivial | exact qap (by decide) | exact qaW ⟨hn,by simp only [qaP hn h9]⟩ | refine qaB (qCJ hn) ?_ | refine qaE (qCJ hn) ?_ | refine qcy (e0) ?_ | refine qaB (leE (Nat.le_of_lt hn)) ?_ | refine qaE (leE (Nat.le_of_lt hn)) ?_ | refine qao (Q:=fun _=>True) (ho) (fun _ _=>?_) | refine qaB (qaG (ho)) ?_ | refine qaE (qaG (ho)) ?_ | refine qao (Q:=fun _=>True) (ht _) (fun _ _=>?_) | refine qaB (qaG (ht _)) ?_ | refine qaE (qaG (ht _)) ?_ | refine qao (Q:=fun _=>True) ?_ (fun _ _=>?_) | refine qaq (fun _=>?_) (fun _=>?_) | refine qax (fun _=>?_) (fun _=>?_)))
  ·exact qcy (qdr hn) (qap (by decide))
 rw [qA0,qkB]
 exact qaq (fun _=>qak trivial) (fun _=>qIv hl (fun _ _=>qak trivial) (fun _ _=>qak trivial) (fun _ _=>qak trivial) (fun _ _=>qak trivial))
theorem qcI (b:Blo):Ok (qmj b.id b.acc b.kind b.amt b.from_ b.to_ b.src) fun _=>True:=by
 rw [qBw,qk8]
 (repeat' (first | exact qak trivial | exact qan trivial | exact qap (by decide) | refine qao (Q:=fun _=>True) (qaT _) (fun _ _=>?_) | refine qaB (qaG (qaT _)) ?_ | refine qaE (qaG (qaT _)) ?_ | refine qao (Q:=fun _=>True) ?_ (fun _ _=>?_) | refine qaq (fun _=>?_) (fun _=>?_) | refine qax (fun _=>?_) (fun _=>?_)))
set_option maxHeartbeats 4000000 in
theorem qsq {l:List Blo} (h9:l.length <= 9223372036854775807):Ok (qiG (EBl l)) fun _=>True:=by
 have hl:Lo (qm3 (EBl l,0)) 4 fun w=>∃ m:Nat,m <= l.length /\ w = (EBl l,(m:Int)):=by
  rw [qui]
  refine qaZ (fun n:Nat=>(EBl l,(n:Int))) l.length 4 (fun n _=>?_) 0 (Nat.zero_le _)
  simp only [qrs,qvE]
  by_cases hn:n < l.length
  ·refine qaB (qds hn) ?_
   simp only [qXj hn,qXk hn,qVF hn,qVG hn,qXl hn,qXm hn,qXn hn]
   by_cases h0:0 < n
   ·have hp:qaw q4c (EBl l) (IntKind.wrap .i64 ((n:Int) - 1)) = true:=qgm q6a hn h0 h9
    (repeat' (first | exact qak trivial | exact qan trivial | exact qap (by decide) | exact qaW ⟨hn,by simp only [qaP hn h9]⟩ | refine qaB (qzH hn) ?_ | refine qaE (qzH hn) ?_ | refine qaB (hp) ?_ | refine qaE (hp) ?_ | refine qao (Q:=fun _=>True) (qcI _) (fun _ _=>?_) | refine qaB (qaG (qcI _)) ?_ | refine qaE (qaG (qcI _)) ?_ | refine qao (Q:=fun _=>True) (qca _) (fun _ _=>?_) | refine qaB (qaG (qca _)) ?_ | refine qaE (qaG (qca _)) ?_ | refine qao (Q:=fun _=>True) ?_ (fun _ _=>?_) | refine qaq (fun _=>?_) (fun _=>?_) | refine qax (fun _=>?_) (fun _=>?_)))
   ·have e0:decide ((n:Int) > 0) = false:=decide_eq_false (by omega)
    (repeat' (first | exact qak trivial | exact qan trivial | exact qap (by decide) | exact qaW ⟨hn,by simp only [qaP hn h9]⟩ | refine qaB (qzH hn) ?_ | refine qaE (qzH hn) ?_ | refine qcy (e0) ?_ | refine qao (Q:=fun _=>True) (qcI _) (fun _ _=>?_) | refine qaB (qaG (qcI _)) ?_ | refine qaE (qaG (qcI _)) ?_ | refine qao (Q:=fun _=>True) (qca _) (fun _ _=>?_) | refine qaB (qaG (qca _)) ?_ | refine qaE (qaG (qca _)) ?_ | refine qao (Q:=fun _=>True) ?_ (fun _ _=>?_) | refine qaq (fun _=>?_) (fun _=>?_) | refine qax (fun _=>?_) (fun _=>?_)))
  ·exact qcy (qdr hn) (qap (by decide))
 rw [qA4,qkF]
 exact qaq (fun _=>qak trivial) (fun _=>qIv hl (fun _ _=>qak trivial) (fun _ _=>qak trivial) (fun _ _=>qak trivial) (fun _ _=>qak trivial))
def qse (N:Nat) (ls:List AV):Prop:=(∀ v ∈ ls,∃ i,v = AV.int IntKind.i64 i) /\ ls.length <= N
theorem qZo {N:Nat} {ls:List AV} (h:qse N ls) {q:Nat} (hq:q < ls.length):okP [CS.int IntKind.i64] ls q 0 = true:=by
 obtain ⟨i,hi⟩:=h.1 _ (List.getElem_mem hq)
 unfold okP
 rw [List.getElem?_eq_getElem hq,hi]; rfl
theorem qVm {N:Nat} {ls:List AV} (h:qse N ls) {q:Nat} (hq:q < ls.length):qaw [CS.int IntKind.i64] ls (q:Int) = true:=by
 obtain ⟨i,hi⟩:=h.1 _ (List.getElem_mem hq)
 unfold qaw qdO
 simp [hq,hi]; rfl
theorem qwc {l:List Gl} (hb:l.length <= 1000) (id:Int):Ok (qmg (EGl l) id) fun ls=>qse 41 ls:=by
 have hl:∀ b i k q nm,Lo' (qgd (Sum.inl (EGl l,b,i,k,q,nm))) 5 fun j w=>(j = 2 \/ j = 3 \/ j = 4) -> ∃ b ls i k q nm,w = Sum.inr (EGl l,b,ls,i,k,q,nm) /\ qse 40 ls:=by
  intro b i k q nm
  rw [qo2]
  refine qIu (fun v=>(∃ b i k q nm,v = Sum.inl (EGl l,b,i,k,q,nm)) \/ ∃ b ls i k q nm,v = Sum.inr (EGl l,b,ls,i,k,q,nm) /\ qse 40 ls /\ ls.length ≠ 0)
   (fun v=>match v with | .inl _=>41 | .inr w=>40 - w.2.2.1.length) (fun j w=>j < 5 /\ ((j = 2 \/ j = 3 \/ j = 4) -> ∃ b ls i k q nm,w = Sum.inr (EGl l,b,ls,i,k,q,nm) /\ qse 40 ls)) ?_ _ (.inl ⟨b,i,k,q,nm,rfl⟩)
  rintro v (⟨b,i,k,q,nm,rfl⟩ | ⟨b,ls,i,k,q,nm,rfl,hls,hne⟩)
  ·simp only [qie,Sum.elim_inl,qpC]
   refine qao (Q:=fun _=>True) (by (repeat' (first | exact qak trivial | exact qan trivial | exact qap (by decide) | refine qao (Q:=fun _=>True) ?_ (fun _ _=>?_) | refine qaq (fun _=>?_) (fun _=>?_) | refine qax (fun _=>?_) (fun _=>?_)))) (fun y _=>qaq (fun _=>qaq (fun _=>qap ⟨by decide,by rintro (h | h | h) <;> cases h⟩) (fun _=>qao (qbI hb _) (fun y1 _=>qaW ⟨.inr ⟨_,_,_,_,_,_,rfl,⟨?_,by simp⟩,by simp⟩,by simp⟩))) (fun _=>qap ⟨by decide,by rintro (h | h | h) <;> cases h⟩))
   exact qd4 ⟨_,rfl⟩ qfQ
  ·simp only [qie,Sum.elim_inr,qpD]
   have hq:∀ j,j < 5 -> (j < 5 /\ ((j = 2 \/ j = 3 \/ j = 4) -> ∃ b' ls' i' k' q' nm',(Sum.inr (EGl l,b,ls,i,k,q,nm):qcu) = Sum.inr (EGl l,b',ls',i',k',q',nm') /\ qse 40 ls')):=fun j hj=>⟨hj,fun _=>⟨_,_,_,_,_,_,rfl,hls⟩⟩
   refine qao (Q:=fun y=>y = true -> ls.length < 40) ?_ (fun y hy=>qaq (fun h=>?_) (fun _=>qap (hq 4 (by decide))))
   ·refine qax (fun _=>qan fun h=>by have:=of_decide_eq_true h; omega) (fun _=>qan fun h=>by cases h)
   ·have hlt:=hy h
    refine quQ rfl (qbO (by omega) (by decide)) (fun h=>absurd h hne) (fun _=>qaq (fun _=>qap (hq 3 (by decide))) (fun _=>qao (qbI hb _) (fun y1 _=>qaW ⟨.inr ⟨_,_,_,_,_,_,rfl,⟨?_,by simp; omega⟩,by simp⟩,by simp; omega⟩)))
    exact qd4 ⟨_,rfl⟩ hls.1
 rw [qBr,qk3]
 refine qao (qbI hb _) (fun y _=>?_)
 have h:=hl y.snd.snd.snd.snd y.fst y.snd.fst y.snd.snd.fst y.snd.snd.snd.fst
 have e1:∀ i:Int,qse 41 [AV.int IntKind.i64 i]:=fun i=>⟨qd4 ⟨_,rfl⟩ qfQ,by simp⟩
 refine qZx h (fun w _=>qak (e1 _)) (fun w _=>qak ⟨qfQ,by simp⟩) (fun w _=>qak (e1 _)) (fun w hw=>?_) (fun w hw=>?_)
 ·obtain ⟨_,_,_,_,_,_,rfl,hn⟩:=hw (.inr (.inl rfl))
  exact qak ⟨qd4 ⟨_,rfl⟩ hn.1,by have:=hn.2; simp [sr]; omega⟩
 ·obtain ⟨_,_,_,_,_,_,rfl,hn⟩:=hw (.inr (.inr rfl))
  exact qak ⟨hn.1,by have:=hn.2; simp [sr]; omega⟩
theorem qcg {l:List Gl} (hb:l.length <= 1000) (id r:Int):Ok (qga (EGl l) id r) fun _=>True:=by
 rw [qAV,qkx]
 refine qao (qwc hb id) (fun ls hls=>?_)
 have h9:ls.length <= 9223372036854775807:=by have:=hls.2; omega
 have hl:Lo (qt3 (r,ls,0)) 2 fun w=>∃ m:Nat,m <= ls.length /\ w = (r,ls,(m:Int)):=by
  rw [qt4]
  refine qaZ (fun n:Nat=>(r,ls,(n:Int))) ls.length 2 (fun n _=>?_) 0 (Nat.zero_le _)
  simp only [qrj,qvx]
  by_cases hn:n < ls.length
  ·refine qaB (decide_eq_true (by omega)) ?_
   (repeat' (first | exact qak trivial | exact qan trivial | exact qap (by decide) | exact qaW ⟨hn,by simp only [qaP hn h9]⟩ | refine qaB (qVm hls hn) ?_ | refine qaE (qVm hls hn) ?_ | refine qao (Q:=fun _=>True) ?_ (fun _ _=>?_) | refine qaq (fun _=>?_) (fun _=>?_) | refine qax (fun _=>?_) (fun _=>?_)))
  ·exact qcy (decide_eq_false (by omega)) (qap (by decide))
 (repeat' (first | refine qa9 ( hl) (fun _ _=>?_) (fun _ _=>?_) | exact qak trivial | exact qan trivial | exact qap (by decide) | refine qao (Q:=fun _=>True) ?_ (fun _ _=>?_) | refine qaq (fun _=>?_) (fun _=>?_) | refine qax (fun _=>?_) (fun _=>?_)))
end Go.Proofs.H53z
namespace Go.Proofs.H53z
open Go Go.Eng Go.Tk
set_option maxRecDepth 20000
theorem qMY {l:List Gl} {n:Nat} (hn:n < l.length) (r:Int) {ls:List AV} (hl:qse 1000 ls):∀ k:Nat,k <= ls.length -> Lo' (qjz (Sum.inr (EGl l,r,(n:Int),(k:Int),ls))) 2 fun j w=>j = 1 /\ ∃ k':Nat,k' <= ls.length /\ w = Sum.inr (EGl l,r,(n:Int),(k':Int),ls):=by
 intro k hk
 rw [qmU]
 refine qIu (fun v=>∃ k:Nat,k <= ls.length /\ v = Sum.inr (EGl l,r,(n:Int),(k:Int),ls)) (fun v=>match v with | .inl _=>0 | .inr w=>w.2.2.2.1.toNat) (fun j w=>j < 2 /\ j = 1 /\ ∃ k':Nat,k' <= ls.length /\ w = Sum.inr (EGl l,r,(n:Int),(k':Int),ls)) ?_ _ ⟨k,hk,rfl⟩
 rintro v ⟨k,hk,rfl⟩
 simp only [qq3,Sum.elim_inr,qvi]
 by_cases h0:0 < k
 ·have hb:=hl.2
  have e:IntKind.wrap .i64 ((k:Int) - 1) = ((k - 1:Nat):Int):=qCD (N:=k + 1) (by omega) h0 (by omega)
  simp only [e,Int.toNat_natCast]
  refine qaB (decide_eq_true (by omega)) (qaB (qbG (by omega)) (qaB (qZo hl (by omega)) (qaB (qsf hn) (qaq (fun _=>qaW ⟨⟨k - 1,by omega,rfl⟩,?_⟩) (fun _=>qap ⟨by decide,rfl,k,hk,rfl⟩)))))
  show ((k - 1:Nat):Int).toNat < ((k:Nat):Int).toNat
  omega
 ·exact qcy (decide_eq_false (by omega)) (qap ⟨by decide,rfl,k,hk,rfl⟩)
theorem qMX (l:List Gl) (r n:Int):Lo' (qjz (Sum.inl (EGl l,r,n,0))) 2 fun j w=>j = 0 /\ w = Sum.inl (EGl l,r,n,0):=by
 rw [qmU]
 exact ⟨(0,_),qaQ rfl,(by decide:0 < 2),rfl,rfl⟩
set_option maxHeartbeats 4000000 in
theorem qp4 {l:List Gl} (hb:l.length <= 900) (r:Int):Ok (qiA (EGl l) r) fun ls=>qse 1000 ls:=by
 have h9:l.length <= 9223372036854775807:=by omega
 have hl:Lo' (qtr (Sum.inl (EGl l,r,0))) 2 fun k w=>∃ (m:Nat) (s:Option (List AV)),m <= l.length /\ w = (match s with | none=>Sum.inl (EGl l,r,(m:Int)) | some ls=>Sum.inr (EGl l,r,(m:Int),ls)) /\ (match s with | none=>True | some ls=>qse m ls) /\ (k = match s with | none=>0 | some _=>1):=by
  rw [qts]
  refine qnc (fun (n:Nat) (s:Option (List AV))=>(match s with | none=>Sum.inl (EGl l,r,(n:Int)) | some ls=>Sum.inr (EGl l,r,(n:Int),ls):qdy)) l.length 2 (fun n s=>match s with | none=>True | some ls=>qse n ls) (fun k _ s=>k = match s with | none=>0 | some _=>1) (fun n s hle hs=>?_) 0 none (Nat.zero_le _) trivial
  cases s with
  | none=>
   simp only [qnI,Sum.elim_inl,qvg]
   by_cases hn:n < l.length
   ·simp only [qaP hn h9]
    refine qaB (qds hn) (qaB (qsf hn) (qao (qct (by omega) _) (fun y _=>qao (Q:=fun _=>True) (by (repeat' (first | exact qak trivial | exact qan trivial | exact qap (by decide) | refine qaB (qsf hn) ?_ | refine qaE (qsf hn) ?_ | refine qao (Q:=fun _=>True) (qcg (l:=l) (by omega) _ _) (fun _ _=>?_) | refine qaB (qaG (qcg (l:=l) (by omega) _ _)) ?_ | refine qaE (qaG (qcg (l:=l) (by omega) _ _)) ?_ | refine qao (Q:=fun _=>True) ?_ (fun _ _=>?_) | refine qaq (fun _=>?_) (fun _=>?_) | refine qax (fun _=>?_) (fun _=>?_)))) (fun y1 _=>qaq (fun _=>qaW ⟨hn,none,rfl,trivial⟩) (fun _=>qjB (qMX l r n) ?_ (fun w hw=>by cases hw.1))))))
    rintro _ ⟨_,rfl⟩
    simp only [sl,qaP hn h9]
    refine qcy rfl (qaB rfl (qaB (qsf hn) (qaB rfl (qaW ⟨hn,some [AV.int IntKind.i64 (intOf (cellAt (EGl l) n 0))],rfl,(⟨qd4 ⟨_,rfl⟩ qfQ,by simp⟩:qse (n + 1) _)⟩))))
   ·exact qcy (qdr hn) (qap ⟨by decide,rfl⟩)
  | some ls=>
   have hs:qse n ls:=hs
   have hs':qse 1000 ls:=⟨hs.1,by have:=hs.2; omega⟩
   have hsl:=hs.2
   simp only [qnI,Sum.elim_inr,qvh]
   by_cases hn:n < l.length
   ·simp only [qaP hn h9]
    refine qaB (qds hn) (qaB (qsf hn) (qao (qct (by omega) _) (fun y _=>qao (Q:=fun _=>True) (by (repeat' (first | exact qak trivial | exact qan trivial | exact qap (by decide) | refine qaB (qsf hn) ?_ | refine qaE (qsf hn) ?_ | refine qao (Q:=fun _=>True) (qcg (l:=l) (by omega) _ _) (fun _ _=>?_) | refine qaB (qaG (qcg (l:=l) (by omega) _ _)) ?_ | refine qaE (qaG (qcg (l:=l) (by omega) _ _)) ?_ | refine qao (Q:=fun _=>True) ?_ (fun _ _=>?_) | refine qaq (fun _=>?_) (fun _=>?_) | refine qax (fun _=>?_) (fun _=>?_)))) (fun y1 _=>qaq (fun _=>qaW ⟨hn,some ls,rfl,(⟨hs.1,by omega⟩:qse (n + 1) ls)⟩) (fun _=>qjB (qMY hn r hs' ls.length (Nat.le_refl _)) (fun w hw=>by cases hw.1) ?_)))))
    rintro _ ⟨_,q,hq,rfl⟩
    simp only [sr,qaP hn h9,Int.toNat_natCast,Nat.zero_add,Nat.sub_zero]
    by_cases h0:0 < q
    ·have e:IntKind.wrap .i64 ((q:Int) - 1) = ((q - 1:Nat):Int):=qCD (N:=q + 1) (by omega) h0 (by omega)
     simp only [e,Int.toNat_natCast]
     have f1:inB ls.length ((q - 1:Nat):Int) = true:=qbG (by omega)
     have f2:(leB (q:Int) ls.length && true && decide (q <= ls.length)) = true:=by simp [leB]; omega
     have f3:(leB (q:Int) ls.length && true) = true:=by simp [leB]; omega
     have f4:decide ((q:Int) > 0) = true:=decide_eq_true (by omega)
     repeat' (first
      | refine qaW ⟨hn,some _,rfl,(⟨?_,?_⟩:qse (n + 1) _)⟩
      | refine qaB f1 ?_ | refine qaB f2 ?_ | refine qaB f3 ?_ | refine qaB f4 ?_ | refine qaB (qsf hn) ?_ | refine qaB (qZo hs' (by omega)) ?_
      | refine quQ (by first | rfl | exact decide_eq_true (by omega)) (by first | exact qbO (by simp only [List.length_append,List.length_take,List.length_cons,List.length_nil,qa4,List.length_drop]; omega) (by decide) | (rw [Bool.and_eq_true]; exact ⟨decide_eq_true (by omega),qbO (by simp only [List.length_append,List.length_take,List.length_cons,List.length_nil,qa4,List.length_drop]; omega) (by decide)⟩)) (fun _=>?_) (fun _=>?_)
      | refine qaB (qbO (by simp only [List.length_append,List.length_take,List.length_cons,List.length_nil,qa4,List.length_drop]; omega) (by decide)) ?_
      | refine qaq (fun _=>?_) (fun _=>?_))
     all_goals first
      | omega
      | (simp only [List.length_append,List.length_take,List.length_cons,List.length_nil,qa4,List.length_drop]; omega)
      | (repeat' (first | exact hs.1 | exact qfQ | refine qx8 ?_ ?_ | refine qp9 ?_ | refine qjR ?_ | refine qd4 ⟨_,rfl⟩ ?_))
    ·obtain rfl:q = 0:=by omega
     have f2:(leB ((0:Nat):Int) ls.length && true && decide (0 <= ls.length)) = true:=by simp [leB]
     have f3:(leB ((0:Nat):Int) ls.length && true) = true:=by simp [leB]
     have f4:decide (((0:Nat):Int) > 0) = false:=rfl
     repeat' (first
      | refine qaW ⟨hn,some _,rfl,(⟨?_,?_⟩:qse (n + 1) _)⟩
      | refine qcy f4 ?_ | refine qaB f2 ?_ | refine qaB f3 ?_ | refine qaB (qsf hn) ?_
      | refine quQ (by first | rfl | exact decide_eq_true (by omega)) (by first | exact qbO (by simp only [List.length_append,List.length_take,List.length_cons,List.length_nil,qa4,List.length_drop]; omega) (by decide) | (rw [Bool.and_eq_true]; exact ⟨decide_eq_true (by omega),qbO (by simp only [List.length_append,List.length_take,List.length_cons,List.length_nil,qa4,List.length_drop]; omega) (by decide)⟩)) (fun _=>?_) (fun _=>?_)
      | refine qaB (qbO (by simp only [List.length_append,List.length_take,List.length_cons,List.length_nil,qa4,List.length_drop]; omega) (by decide)) ?_
      | refine qaq (fun _=>?_) (fun _=>?_))
     all_goals first
      | omega
      | (simp only [List.length_append,List.length_take,List.length_cons,List.length_nil,qa4,List.length_drop]; omega)
      | (repeat' (first | exact hs.1 | exact qfQ | refine qx8 ?_ ?_ | refine qp9 ?_ | refine qjR ?_ | refine qd4 ⟨_,rfl⟩ ?_))
   ·exact qcy (qdr hn) (qap ⟨by decide,rfl⟩)
 rw [qAx,qkc]
 refine qjB hl (fun w hw=>qak ⟨qfQ,by simp⟩) ?_
 rintro _ ⟨m,s,hm,rfl,hs,hk⟩
 cases s with
 | none=>cases hk
 | some ls=>exact qak ⟨hs.1,by have:=hs.2; simp only [sr]; omega⟩
end Go.Proofs.H53z
namespace Go.Proofs.H53z
open Go Go.Eng Go.Tk
set_option maxRecDepth 20000
theorem qEJ {α:Type} {l:List α} {p:α -> Bool}:l.any p = decide (l.findIdx p < l.length):=by
 rw [Bool.eq_iff_iff,decide_eq_true_eq,List.findIdx_lt_length,List.any_eq_true]
def prT (p:Pr):qln:=(p.name,p.cur,p.cal,p.from_,p.every,p.over,p.tax,ETr p.cr.tiers,p.cr.marg,p.cr.basis,p.cr.mode,p.cr.keep,ETr p.de.tiers,p.de.marg,p.de.basis,p.de.mode,p.de.keep,EF p.fees,ER p.rules,true)
def noP:qln:=([],[],[],0,0,0,0,[],false,0,0,false,[],false,0,0,false,[],[],false)
def acT (c:Acc):qlm:=(c.id,c.opened,c.closed,c.extra,c.owner,c.prod,c.number,true)
def q6F:qlm:=(0,0,0,0,[],[],[],false)
def atF (l:List Pr) (name:List UInt8) (day:Int) (n:Nat) (a:Option Nat) (x:Pr):Option Nat:=
 bif x.name == name then bif decide (x.from_ <= day) then match a with
  | none=>some n
  | some m=>bif decide (x.from_ > (l[m]?.map Pr.from_).getD 0) then some n else some m
 else a else a
def qCK (a:Option Nat):Int:=match a with
 | none=>-1
 | some m=>m
def inv (n:Nat) (a:Option Nat):Prop:=match a with
 | none=>True
 | some m=>m < n
def atS (l:List Pr) (name:List UInt8) (day:Int):Option Nat:=qjN (atF l name day) 0 none l
theorem qw6 (l:List Pr) (name:List UInt8) (day:Int) (n:Nat) (a:Option Nat) (x:Pr) (h:inv n a):inv (n + 1) (atF l name day n a x):=by
 unfold atF
 cases (x.name == name)
 ·cases a with
  | none=>trivial
  | some m=>simp only [inv] at h ⊢; simp only [cond_false]; omega
 ·cases decide (x.from_ <= day)
  ·cases a with
   | none=>trivial
   | some m=>simp only [inv] at h ⊢; simp only [cond_false,cond_true]; omega
  ·cases a with
   | none=>simp [inv]
   | some m=>
    simp only [cond_true]
    cases decide (x.from_ > (l[m]?.map Pr.from_).getD 0)
    ·simp only [inv] at h ⊢; simp only [cond_false]; omega
    ·simp [inv]
theorem qs6 (l:List Pr) (name:List UInt8) (day:Int):∀ (xs:List Pr) (n:Nat) (a:Option Nat),inv n a -> inv (n + xs.length) (qjN (atF l name day) n a xs)
 | [],n,a,h=>by simpa [qjN] using h
 | x :: xs,n,a,h=>by
  rw [qjN]
  have:=qs6 l name day xs (n + 1) _ (qw6 l name day n a x h)
  simpa [Nat.add_assoc,Nat.add_comm 1] using this
theorem qGP (l:List Pr) (name:List UInt8) (day:Int):inv l.length (atS l name day):=by
 have:=qs6 l name day l 0 none trivial
 unfold atS
 simpa using this
theorem qLE {l:List Pr} {n:Nat} (h:n < l.length) (name:List UInt8) (day:Int) {a:Option Nat} (ha:inv n a) :
  (∃ m,∃ hm:m < l.length,a = some m /\ qCK (atF l name day n a l[n]) = (bif l[n].name == name then bif decide (l[n].from_ <= day) then bif decide (l[n].from_ > l[m].from_) then (n:Int) else (m:Int) else (m:Int) else (m:Int))) \/
  (a = none /\ qCK (atF l name day n a l[n]) = (bif l[n].name == name then bif decide (l[n].from_ <= day) then (n:Int) else -1 else -1)):=by
 cases a with
 | none=>
  refine .inr ⟨rfl,?_⟩
  unfold atF
  cases (l[n].name == name) <;> cases decide (l[n].from_ <= day) <;> rfl
 | some m=>
  simp only [inv] at ha
  have hm:m < l.length:=by omega
  refine .inl ⟨m,hm,rfl,?_⟩
  unfold atF
  simp only [List.getElem?_eq_getElem hm,Option.map_some,Option.getD_some]
  cases (l[n].name == name) <;> cases decide (l[n].from_ <= day) <;> cases decide (l[n].from_ > l[m].from_) <;> rfl
theorem qxa {l:List Pr} (hl:l.length <= big) (name:List UInt8) (day:Int):qy6 (EPr l,name,day,-1,EPr l,(l.length:Int),0,[],[],[],0,0,0,0,false,0,0,false,false,0,0,false) = some (0,(EPr l,name,day,qCK (atS l name day),EPr l,(l.length:Int),(l.length:Int),[],[],[],0,0,0,0,false,0,0,false,false,0,0,false)):=by
 rw [qtx]
 refine qiX (st:=fun v=>(qhz v).ev) (l:=l) (fun n a=>(EPr l,name,day,qCK a,EPr l,(l.length:Int),(n:Int),[],[],[],0,0,0,0,false,0,0,false,false,0,0,false)) (atF l name day) (fun _=>0) inv (a:=none) trivial (fun n a h ha=>qw6 l name day n a _ ha) (fun n a h ha=>?_) (fun a _=>?_)
 ·rcases qLE h name day ha with ⟨m,hm,rfl,he⟩ | ⟨rfl,he⟩
  ·have hneg:decide ((m:Int) < 0) = false:=decide_eq_false (by omega)
   rw [he]
   simp only [qhz,qik,qCK,List.length_map,qbu h,qsg h,qsg hm,qMV h,qCM h,qCM hm,ev_br,ev_at,cond_true,hneg,cond_false,qaJ h hl]
   cases (l[n].name == name) <;> cases decide (l[n].from_ <= day) <;> cases decide (l[n].from_ > l[m].from_) <;> rfl
  ·rw [he]
   simp only [qhz,qik,qCK,List.length_map,qbu h,qsg h,qMV h,qCM h,ev_br,ev_at,cond_true,qaJ h hl]
   cases (l[n].name == name) <;> cases decide (l[n].from_ <= day) <;> rfl
 ·simp [qhz,qik]
theorem qwG {l:List Pr} (hl:l.length <= big) (name:List UInt8) (day:Int):qlO (EPr l) name day = some (match atS l name day with | none=>noP | some m=>match l[m]? with | some p=>prT p | none=>noP):=by
 rw [qAE,qki]
 rw [List.length_map,qxa hl]
 simp only [pj_some,if_true,ev_bi_some,ev_br,ev_at]
 have hi:=qGP l name day
 cases hq:atS l name day with
 | none=>rfl
 | some m=>
  rw [hq] at hi
  have h:m < l.length:=hi
  have hneg:decide ((m:Int) < 0) = false:=decide_eq_false (by omega)
  simp only [qCK,hneg,cond_false,qsg h,cond_true,qMV h,qXo h,qXp h,qCM h,qXq h,qXr h,qXs h,qXt h,qXu h,qXv h,qCh h,qCi h,qCj h,qCk h,qCl h,qCm h,qCn h,qCo h,qCp h,List.getElem?_eq_getElem h]
  rfl
theorem qxe {l:List Pr} (hl:l.length <= big) (name:List UInt8) (day:Int):qmR (EPr l,name,day,-1,0,[],[],[],0,0,0,0,false,0,0,false,false,0,0,false) = some (0,(EPr l,name,day,qCK (atS l name day),(l.length:Int),[],[],[],0,0,0,0,false,0,0,false,false,0,0,false)):=by
 rw [qiV]
 refine qiX (st:=fun v=>(qdZ v).ev) (l:=l) (fun n a=>(EPr l,name,day,qCK a,(n:Int),[],[],[],0,0,0,0,false,0,0,false,false,0,0,false)) (atF l name day) (fun _=>0) inv (a:=none) trivial (fun n a h ha=>qw6 l name day n a _ ha) (fun n a h ha=>?_) (fun a _=>?_)
 ·rcases qLE h name day ha with ⟨m,hm,rfl,he⟩ | ⟨rfl,he⟩
  ·have hneg:decide ((m:Int) < 0) = false:=decide_eq_false (by omega)
   rw [he]
   simp only [qdZ,qes,qCK,List.length_map,qbu h,qsg h,qsg hm,qMV h,qCM h,qCM hm,ev_br,ev_at,cond_true,hneg,cond_false,qaJ h hl]
   cases (l[n].name == name) <;> cases decide (l[n].from_ <= day) <;> cases decide (l[n].from_ > l[m].from_) <;> rfl
  ·rw [he]
   simp only [qdZ,qes,qCK,List.length_map,qbu h,qsg h,qMV h,qCM h,ev_br,ev_at,cond_true,qaJ h hl]
   cases (l[n].name == name) <;> cases decide (l[n].from_ <= day) <;> rfl
 ·simp [qdZ,qes]
theorem qw1 {l:List Pr} (hl:l.length <= big) (name:List UInt8) (day:Int):qhl (EPr l) name day = some (match atS l name day with | none=>noP | some m=>match l[m]? with | some p=>prT p | none=>noP):=by
 rw [qoB,qio]
 rw [qxe hl]
 simp only [pj_some,if_true,ev_bi_some,ev_br,ev_at]
 have hi:=qGP l name day
 cases hq:atS l name day with
 | none=>rfl
 | some m=>
  rw [hq] at hi
  have h:m < l.length:=hi
  have hneg:decide ((m:Int) < 0) = false:=decide_eq_false (by omega)
  simp only [qCK,hneg,cond_false,qsg h,cond_true,qMV h,qXo h,qXp h,qCM h,qXq h,qXr h,qXs h,qXt h,qXu h,qXv h,qCh h,qCi h,qCj h,qCk h,qCl h,qCm h,qCn h,qCo h,qCp h,List.getElem?_eq_getElem h]
  rfl
def idC (id:Int) (c:Acc):Bool:=c.id == id
theorem qAX (c:Acc) (id:Int):qsR c.id c.opened c.closed c.extra c.owner c.prod c.number id = some (idC id c):=by rw [qFk]; rfl
theorem qGS {l:List Acc} (hl:l.length <= big) (id:Int):qGR (EAc l,id,(l.length:Int),0) = some (qqT (idC id) (fun _=>0) 1 l,EAc l,id,(l.length:Int),((l.findIdx (idC id):Nat):Int)):=by
 rw [qyX]
 refine qaY (hd:=fun n=>(EAc l,id,(l.length:Int),(n:Int))) (jx:=fun _=>0) (idC id) 1 (fun n h=>?_) ?_
 ·simp only [qvc,qqV,qbu h,qMT h,qCL h,qZG h,qZH h,qZI h,qZJ h,qZK h,qZL h,ev_br,ev_at,cond_true,qAX,ev_bi_some,qaJ h hl]
  cases idC id l[n] <;> rfl
 ·simp [qvc,qqV]
def qhS (l:List Acc) (id:Int):qlm:=match l.find? (idC id) with
 | some c=>acT c
 | none=>q6F
theorem qyr {l:List Acc} {id:Int} (h:l.findIdx (idC id) < l.length):l.find? (idC id) = some l[l.findIdx (idC id)]:=by
 rw [List.find?_eq_getElem?_findIdx,List.getElem?_eq_getElem h]
theorem qys {l:List Acc} {id:Int} (h:¬ l.findIdx (idC id) < l.length):l.find? (idC id) = none:=by
 rw [List.findIdx_lt_length] at h
 exact List.find?_eq_none.2 fun x hx hp=>h ⟨x,hx,hp⟩
theorem qiO (x0 x1 x2:List AV) (x3 x4 x5 x6 x7 x8 x9 x10 x11 x12 x13 x14 x15 x16:Int) (ps:List Pr) (cs:List Acc) (x19 x20 x21:List AV) (hl:cs.length <= big) (id:Int):qmp x0 x1 x2 x3 x4 x5 x6 x7 x8 x9 x10 x11 x12 x13 x14 x15 x16 (EPr ps) (EAc cs) x19 x20 x21 id = some (qhS cs id):=by
 rw [qFA,qr6,qFq,qrQ,qNs,qz0,List.length_map,qGS hl,qa1,qEJ]
 by_cases h:cs.findIdx (idC id) < cs.length
 ·have hneg:decide (((cs.findIdx (idC id):Nat):Int) < 0) = false:=decide_eq_false (by omega)
  simp only [decide_eq_true h,cond_true,pj_some,if_true,ev_bi_some,ev_at,ev_br,hneg,cond_false,qMT h,qCL h,qZG h,qZH h,qZI h,qZJ h,qZK h,qZL h,qhS,qyr h]
  rfl
 ·rw [decide_eq_false h,qhS,qys h]; rfl
theorem qxd (x0 x1 x2:List AV) (x3 x4 x5 x6 x7 x8 x9 x10 x11 x12 x13 x14 x15 x16:Int) (ps:List Pr) (cs:List Acc) (x19 x20 x21:List AV) (hl:cs.length <= big) (id:Int):qmN (id,0,x0,x1,x2,x3,x4,x5,x6,x7,x8,x9,x10,x11,x12,x13,x14,x15,x16,EPr ps,EAc cs,x19,x20,x21,0,0,0,0,[],[],[]) = some (qqT (idC id) (fun _=>0) 1 cs,id,((cs.findIdx (idC id):Nat):Int),x0,x1,x2,x3,x4,x5,x6,x7,x8,x9,x10,x11,x12,x13,x14,x15,x16,EPr ps,EAc cs,x19,x20,x21,0,0,0,0,[],[],[]):=by
 rw [qo6]
 refine qaY (hd:=fun n=>(id,(n:Int),x0,x1,x2,x3,x4,x5,x6,x7,x8,x9,x10,x11,x12,x13,x14,x15,x16,EPr ps,EAc cs,x19,x20,x21,0,0,0,0,[],[],[])) (jx:=fun _=>0) (idC id) 1 (fun n h=>?_) ?_
 ·simp only [qih,qjg,List.length_map,qbu h,qMT h,qCL h,ev_br,ev_at,cond_true,qaJ h hl]
  rw [show (cs[n].id == id) = idC id cs[n] from rfl]
  cases idC id cs[n] <;> rfl
 ·simp [qih,qjg]
theorem qhh (x0 x1 x2:List AV) (x3 x4 x5 x6 x7 x8 x9 x10 x11 x12 x13 x14 x15 x16:Int) (ps:List Pr) (cs:List Acc) (x19 x20 x21:List AV) (hl:cs.length <= big) (id:Int):qhg x0 x1 x2 x3 x4 x5 x6 x7 x8 x9 x10 x11 x12 x13 x14 x15 x16 (EPr ps) (EAc cs) x19 x20 x21 id = some (qhS cs id):=by
 rw [qBx,qk9,qxd x0 x1 x2 x3 x4 x5 x6 x7 x8 x9 x10 x11 x12 x13 x14 x15 x16 ps cs x19 x20 x21 hl,qa1,qEJ]
 by_cases h:cs.findIdx (idC id) < cs.length
 ·simp only [decide_eq_true h,cond_true,pj_some,if_true,ev_bi_some,ev_at,qCL h,qZG h,qZH h,qZI h,qZJ h,qZK h,qZL h,qhS,qyr h]
  rfl
 ·rw [decide_eq_false h,qhS,qys h]; rfl
def quX (ps:List Pr) (cs:List Acc) (id day:Int):qln:=match cs.find? (idC id) with
 | none=>noP
 | some c=>match atS ps c.prod day with
  | none=>noP
  | some m=>match ps[m]? with
   | some p=>prT p
   | none=>noP
theorem qAO (x0 x1 x2:List AV) (x3 x4 x5 x6 x7 x8 x9 x10 x11 x12 x13 x14 x15 x16:Int) (ps:List Pr) (cs:List Acc) (x19 x20 x21:List AV) (hp:ps.length <= big) (hl:cs.length <= big) (id day:Int):qsQ x0 x1 x2 x3 x4 x5 x6 x7 x8 x9 x10 x11 x12 x13 x14 x15 x16 (EPr ps) (EAc cs) x19 x20 x21 id day = some (quX ps cs id day):=by
 rw [qFj,qrH,qiO x0 x1 x2 x3 x4 x5 x6 x7 x8 x9 x10 x11 x12 x13 x14 x15 x16 ps cs x19 x20 x21 hl]
 simp only [ev_bi_some,ev_br,qhS,quX]
 cases cs.find? (idC id) with
 | none=>rfl
 | some c=>
  simp only [acT,Bool.not_true,cond_false,qwG hp,ev_bi_some,ev_at]
theorem qoJ (x0 x1 x2:List AV) (x3 x4 x5 x6 x7 x8 x9 x10 x11 x12 x13 x14 x15 x16:Int) (ps:List Pr) (cs:List Acc) (x19 x20 x21:List AV) (hp:ps.length <= big) (hl:cs.length <= big) (id day:Int):qoI x0 x1 x2 x3 x4 x5 x6 x7 x8 x9 x10 x11 x12 x13 x14 x15 x16 (EPr ps) (EAc cs) x19 x20 x21 id day = some (quX ps cs id day):=by
 rw [qFD,qr9,qhh x0 x1 x2 x3 x4 x5 x6 x7 x8 x9 x10 x11 x12 x13 x14 x15 x16 ps cs x19 x20 x21 hl]
 simp only [ev_bi_some,ev_br,qhS,quX]
 cases cs.find? (idC id) with
 | none=>rfl
 | some c=>
  simp only [acT,Bool.not_true,cond_false,qw1 hp,ev_bi_some,ev_at]
end Go.Proofs.H53z
namespace Go.Proofs.H53z
open Go Go.Eng Go.Tk
set_option maxRecDepth 20000
def Mos (N:Nat) (ls:List AV):Prop:=(∀ v ∈ ls,∃ c i,v = AV.agg [AV.str c,AV.int IntKind.i64 i]) /\ ls.length <= N
theorem q4o {N:Nat} {ls:List AV} (h:Mos N ls) {q:Nat} (hq:q < ls.length):okP [CS.str] ls q 0 = true /\ okP [CS.int IntKind.i64] ls q 1 = true:=by
 obtain ⟨c,i,hi⟩:=h.1 _ (List.getElem_mem hq)
 unfold okP
 rw [List.getElem?_eq_getElem hq,hi]; exact ⟨rfl,rfl⟩
theorem q6g {N:Nat} {ls:List AV} (h:Mos N ls) {q:Nat} (hq:q < ls.length):qaw [CS.str,CS.int IntKind.i64] ls (q:Int) = true:=by
 obtain ⟨c,i,hi⟩:=h.1 _ (List.getElem_mem hq)
 unfold qaw qdO
 simp [hq,hi]; rfl
theorem qXM {l:List Leg} {n:Nat} (hn:n < l.length) {ls:List AV} (hl:Mos 1000 ls):Lo' (qge (Sum.inr (ELg l,(n:Int),0,ls))) 2 fun j w=>j = 1 /\ ∃ q:Nat,q <= ls.length /\ w = Sum.inr (ELg l,(n:Int),(q:Int),ls):=by
 have hb:=hl.2
 rw [qiU]
 have h:=qSk (st:=qig) (fun q:Nat=>Sum.inr (ELg l,(n:Int),(q:Int),ls)) ls.length (fun k _=>k = 1) (fun q _=>?_) 0 (Nat.zero_le _)
 ·exact h.mono fun p hp=>by obtain ⟨m,h1,h2,h3⟩:=hp; exact ⟨by omega,h3,m,h1,h2⟩
 ·simp only [qig,Sum.elim_inr,qpI]
  by_cases hq:q < ls.length
  ·refine qaB (decide_eq_true (by omega)) (qaB (qbG hq) (qaB (by rw [Int.toNat_natCast]; exact (q4o hl hq).1) (qaB (qIt hn) (qaq (fun _=>qaW ⟨hq,by simp only [qaP hq (N:=ls.length) (by omega)]⟩) (fun _=>qap rfl)))))
  ·exact qcy (decide_eq_false (by omega)) (qap rfl)
theorem qXL (l:List Leg) (n:Int):Lo' (qge (Sum.inl (ELg l,n,0))) 2 fun j w=>j = 0 /\ w = Sum.inl (ELg l,n,0):=by
 rw [qiU]
 exact ⟨(0,_),qaQ rfl,(by decide:0 < 2),rfl,rfl⟩
set_option maxHeartbeats 4000000 in
theorem qwd {l:List Leg} (hb:l.length <= 900):Ok (qmi (ELg l)) fun ls=>Mos 1000 ls:=by
 have h9:l.length <= 9223372036854775807:=by omega
 have hl:Lo' (qmM (Sum.inl (ELg l,0))) 2 fun k w=>∃ (m:Nat) (s:Option (List AV)),m <= l.length /\ w = (match s with | none=>Sum.inl (ELg l,(m:Int)) | some ls=>Sum.inr (ELg l,(m:Int),ls)) /\ (match s with | none=>True | some ls=>Mos m ls) /\ (k = match s with | none=>0 | some _=>1):=by
  rw [qo5]
  refine qnc (fun (n:Nat) (s:Option (List AV))=>(match s with | none=>Sum.inl (ELg l,(n:Int)) | some ls=>Sum.inr (ELg l,(n:Int),ls):qcv)) l.length 2 (fun n s=>match s with | none=>True | some ls=>Mos n ls) (fun k _ s=>k = match s with | none=>0 | some _=>1) (fun n s hle hs=>?_) 0 none (Nat.zero_le _) trivial
  cases s with
  | none=>
   simp only [qif,Sum.elim_inl,qpG]
   by_cases hn:n < l.length
   ·refine qaB (qds hn) (qjB (qXL l n) ?_ (fun w hw=>by cases hw.1))
    rintro _ ⟨_,rfl⟩
    simp only [sl,qaP hn h9]
    exact qaB rfl (qaB (qIt hn) (qcy rfl (qaB (qIt hn) (qaB rfl (qaW ⟨hn,some _,rfl,(⟨qd4 ⟨_,_,rfl⟩ qfQ,by simp⟩:Mos (n + 1) _)⟩)))))
   ·exact qcy (qdr hn) (qap ⟨by decide,rfl⟩)
  | some ls=>
   have hs:Mos n ls:=hs
   have hs':Mos 1000 ls:=⟨hs.1,by have:=hs.2; omega⟩
   have hsl:=hs.2
   simp only [qif,Sum.elim_inr,qpH]
   by_cases hn:n < l.length
   ·refine qaB (qds hn) (qjB (qXM hn hs') (fun w hw=>by cases hw.1) ?_)
    rintro _ ⟨_,q,hq,rfl⟩
    simp only [sr,qaP hn h9,Int.toNat_natCast,Nat.zero_add,Nat.sub_zero]
    have f2:(leB (q:Int) ls.length && true && decide (q <= ls.length)) = true:=by simp [leB]; omega
    have f3:(leB (q:Int) ls.length && true) = true:=by simp [leB]; omega
    by_cases hql:q < ls.length
    ·have e:IntKind.wrap .i64 ((q:Int) + 1) = ((q + 1:Nat):Int):=qaP hql (by omega)
     simp only [e,Int.toNat_natCast]
     have f1:inB ls.length (q:Int) = true:=qbG hql
     have f4:decide ((q:Int) < (ls.length:Int)) = true:=decide_eq_true (by omega)
     have f5:(leB ((q + 1:Nat):Int) ls.length && true) = true:=by simp [leB]; omega
     have p0:=(q4o hs' hql).1
     have p1:=(q4o hs' hql).2
     repeat' (first
      | refine qaW ⟨hn,some _,rfl,(⟨?_,?_⟩:Mos (n + 1) _)⟩
      | refine qaB f1 ?_ | refine qaB f2 ?_ | refine qaB f3 ?_ | refine qaB f4 ?_ | refine qaB f5 ?_ | refine qaB (qIt hn) ?_ | refine qaB p0 ?_ | refine qaB p1 ?_
      | refine quQ (by first | rfl | exact decide_eq_true (by omega)) (by first | exact qbO (by simp only [List.length_append,List.length_take,List.length_cons,List.length_nil,qa4,List.length_drop]; omega) (by decide) | (rw [Bool.and_eq_true]; exact ⟨decide_eq_true (by omega),qbO (by simp only [List.length_append,List.length_take,List.length_cons,List.length_nil,qa4,List.length_drop]; omega) (by decide)⟩)) (fun _=>?_) (fun _=>?_)
      | refine qaB (qbO (by simp only [List.length_append,List.length_take,List.length_cons,List.length_nil,qa4,List.length_drop]; omega) (by decide)) ?_
      | refine qaq (fun _=>?_) (fun _=>?_))
     all_goals first
      | omega
      | (simp only [List.length_append,List.length_take,List.length_cons,List.length_nil,qa4,List.length_drop]; omega)
      | (repeat' (first | exact hs.1 | exact qfQ | refine qx8 ?_ ?_ | refine qp9 ?_ | refine qjR ?_ | refine qd4 ⟨_,_,rfl⟩ ?_))
    ·obtain rfl:q = ls.length:=by omega
     have f4:decide ((ls.length:Int) < (ls.length:Int)) = false:=decide_eq_false (by omega)
     repeat' (first
      | refine qaW ⟨hn,some _,rfl,(⟨?_,?_⟩:Mos (n + 1) _)⟩
      | refine qcy f4 ?_ | refine qaB f2 ?_ | refine qaB f3 ?_ | refine qaB (qIt hn) ?_
      | refine quQ (by first | rfl | exact decide_eq_true (by omega)) (by first | exact qbO (by simp only [List.length_append,List.length_take,List.length_cons,List.length_nil,qa4,List.length_drop]; omega) (by decide) | (rw [Bool.and_eq_true]; exact ⟨decide_eq_true (by omega),qbO (by simp only [List.length_append,List.length_take,List.length_cons,List.length_nil,qa4,List.length_drop]; omega) (by decide)⟩)) (fun _=>?_) (fun _=>?_)
      | refine qaB (qbO (by simp only [List.length_append,List.length_take,List.length_cons,List.length_nil,qa4,List.length_drop]; omega) (by decide)) ?_
      | refine qaq (fun _=>?_) (fun _=>?_))
     all_goals first
      | omega
      | (simp only [List.length_append,List.length_take,List.length_cons,List.length_nil,qa4,List.length_drop]; omega)
      | (repeat' (first | exact hs.1 | exact qfQ | refine qx8 ?_ ?_ | refine qp9 ?_ | refine qjR ?_ | refine qd4 ⟨_,_,rfl⟩ ?_))
   ·exact qcy (qdr hn) (qap ⟨by decide,rfl⟩)
 rw [qBv,qk7]
 refine qjB hl (fun w hw=>qak ⟨qfQ,by simp⟩) ?_
 rintro _ ⟨m,s,hm,rfl,hs,hk⟩
 cases s with
 | none=>cases hk
 | some ls=>exact qak ⟨hs.1,by have:=hs.2; simp only [sr]; omega⟩
set_option maxHeartbeats 4000000 in
theorem qsm {x:Enr} (hk:x.key.length <= 9223372036854775807) (ht:x.text.length <= 9223372036854775807) (hb:x.legs.length <= 900):Ok (qlY x.id x.booked x.value x.kind x.auth x.period x.key x.text (ELg x.legs) x.chain) fun _=>True:=by
 have h9:x.legs.length <= 9223372036854775807:=by omega
 have h0:Lo (qt5 (0,x.id,x.booked,x.value,x.kind,x.auth,x.period,x.key,x.text,(ELg x.legs),x.chain)) 2 fun w=>∃ m:Nat,m <= x.legs.length /\ w = ((m:Int),x.id,x.booked,x.value,x.kind,x.auth,x.period,x.key,x.text,(ELg x.legs),x.chain):=by
  rw [qt6]
  refine qaZ (fun n:Nat=>((n:Int),x.id,x.booked,x.value,x.kind,x.auth,x.period,x.key,x.text,(ELg x.legs),x.chain)) x.legs.length 2 (fun n _=>?_) 0 (Nat.zero_le _)
  simp only [qrk,qvy]
  by_cases hn:n < x.legs.length
  ·refine qaB (qds hn) (qaB (qIt hn) ?_)
   simp only [q5e hn,q5f hn,q6n hn]
   (repeat' (first | exact qak trivial | exact qan trivial | exact qap (by decide) | exact qaW ⟨hn,by simp only [qaP hn h9]⟩ | refine qao (Q:=fun _=>True) (qir _) (fun _ _=>?_) | refine qaB (qaG (qir _)) ?_ | refine qaE (qaG (qir _)) ?_ | refine qao (Q:=fun _=>True) ?_ (fun _ _=>?_) | refine qaq (fun _=>?_) (fun _=>?_) | refine qax (fun _=>?_) (fun _=>?_)))
  ·exact qcy (qdr hn) (qap (by decide))
 have h1:∀ ls,Mos 1000 ls -> Lo (qt7 (ls,0)) 2 fun w=>∃ m:Nat,m <= ls.length /\ w = (ls,(m:Int)):=by
  intro ls hls
  have h9:ls.length <= 9223372036854775807:=by have:=hls.2; omega
  rw [qt8]
  refine qaZ (fun n:Nat=>(ls,(n:Int))) ls.length 2 (fun n _=>?_) 0 (Nat.zero_le _)
  simp only [qrl,qvz]
  by_cases hn:n < ls.length
  ·refine qaB (decide_eq_true (by omega)) ?_
   (repeat' (first | exact qak trivial | exact qan trivial | exact qap (by decide) | exact qaW ⟨hn,by simp only [qaP hn h9]⟩ | refine qaB (q6g hls hn) ?_ | refine qaE (q6g hls hn) ?_ | refine qao (Q:=fun _=>True) ?_ (fun _ _=>?_) | refine qaq (fun _=>?_) (fun _=>?_) | refine qax (fun _=>?_) (fun _=>?_)))
  ·exact qcy (decide_eq_false (by omega)) (qap (by decide))
 have hv:=qaT
 rw [qAW,qky]
 refine qao (qgx hk) (fun _ _=>qaq (fun _=>qak trivial) (fun _=>qao (qcT ht _ _) (fun _ _=>?_)))
 refine qao (Q:=fun _=>True) (by (repeat' (first | exact qak trivial | exact qan trivial | exact qap (by decide) | refine qao (Q:=fun _=>True) (hv _) (fun _ _=>?_) | refine qaB (qaG (hv _)) ?_ | refine qaE (qaG (hv _)) ?_ | refine qao (Q:=fun _=>True) ?_ (fun _ _=>?_) | refine qaq (fun _=>?_) (fun _=>?_) | refine qax (fun _=>?_) (fun _=>?_)))) (fun _ _=>qao (Q:=fun _=>True) (by (repeat' (first | exact qak trivial | exact qan trivial | exact qap (by decide) | refine qao (Q:=fun _=>True) (hv _) (fun _ _=>?_) | refine qaB (qaG (hv _)) ?_ | refine qaE (qaG (hv _)) ?_ | refine qao (Q:=fun _=>True) ?_ (fun _ _=>?_) | refine qaq (fun _=>?_) (fun _=>?_) | refine qax (fun _=>?_) (fun _=>?_)))) (fun _ _=>qao (Q:=fun _=>True) (by (repeat' (first | exact qak trivial | exact qan trivial | exact qap (by decide) | refine qao (Q:=fun _=>True) ?_ (fun _ _=>?_) | refine qaq (fun _=>?_) (fun _=>?_) | refine qax (fun _=>?_) (fun _=>?_)))) (fun _ _=>qao (Q:=fun _=>True) (by (repeat' (first | exact qak trivial | exact qan trivial | exact qap (by decide) | refine qao (Q:=fun _=>True) ?_ (fun _ _=>?_) | refine qaq (fun _=>?_) (fun _=>?_) | refine qax (fun _=>?_) (fun _=>?_)))) (fun _ _=>qao (Q:=fun _=>True) (by (repeat' (first | exact qak trivial | exact qan trivial | exact qap (by decide) | refine qao (Q:=fun _=>True) ?_ (fun _ _=>?_) | refine qaq (fun _=>?_) (fun _=>?_) | refine qax (fun _=>?_) (fun _=>?_)))) (fun _ _=>qao (Q:=fun _=>True) (by (repeat' (first | exact qak trivial | exact qan trivial | exact qap (by decide) | refine qao (Q:=fun _=>True) ?_ (fun _ _=>?_) | refine qaq (fun _=>?_) (fun _=>?_) | refine qax (fun _=>?_) (fun _=>?_)))) (fun _ _=>qao (Q:=fun _=>True) (by (repeat' (first | exact qak trivial | exact qan trivial | exact qap (by decide) | refine qao (Q:=fun _=>True) (hv _) (fun _ _=>?_) | refine qaB (qaG (hv _)) ?_ | refine qaE (qaG (hv _)) ?_ | refine qao (Q:=fun _=>True) ?_ (fun _ _=>?_) | refine qaq (fun _=>?_) (fun _=>?_) | refine qax (fun _=>?_) (fun _=>?_)))) (fun _ _=>?_)))))))
 refine qaq (fun _=>qak trivial) (fun _=>qao (Q:=fun _=>True) (by (repeat' (first | exact qak trivial | exact qan trivial | exact qap (by decide) | refine qao (Q:=fun _=>True) ?_ (fun _ _=>?_) | refine qaq (fun _=>?_) (fun _=>?_) | refine qax (fun _=>?_) (fun _=>?_)))) (fun _ _=>qaq (fun _=>qak trivial) (fun _=>qa9 h0 (fun _ _=>qak trivial) ?_)))
 rintro _ ⟨m,_,rfl⟩
 exact qao (qwd hb) (fun ls hls=>qa9 (h1 ls hls) (fun _ _=>qak trivial) (fun _ _=>qak trivial))
end Go.Proofs.H53z
