/- What schedule.Check calls ends with some value. -/
import Derived.Test.YtbieppilagmdjaaGreatDoorD35_1
import Derived.Test.YtbieppilagmdjaaGreatDoorD35_3
import Derived.Test.YtbieppilagmdjaaGreatDoorToA
set_option linter.unusedVariables false
set_option linter.unusedSimpArgs false
set_option linter.unnecessarySimpa false
namespace Go.Proofs.H35
open Go Go.Eng Go.Tk
set_option maxRecDepth 20000
theorem qc2 (c d:Bool):br c (some d) (some false) = some (c && d):=by cases c <;> rfl
theorem qjF (c d:Bool):br c (some true) (some d) = some (c || d):=by cases c <;> rfl
theorem qFm {α:Type} (x y:Option α):br true x y = x:=rfl
theorem qwU (x a b:Int):qcd x a b = some (decide (x >= a) && decide (x <= b)):=by
 rw [qAA,qoT,qc2,ev_bi_some]; rfl
theorem qaU (x:Int):qbj x = some (decide (x >= 0) && decide (x <= 73048)):=by
 rw [qlR,qhp,qc2,ev_bi_some]; rfl
theorem qfJ (x:Int):qd0 x = some (decide (x >= 1) && decide (x <= 6)):=by
 rw [qp3,qle,qc2,ev_bi_some]; rfl
theorem qiE {s:Bs} (h9:s.length <= 9223372036854775807):Ok (qp8 s) fun _=>True:=by
 have hl:Lo (qqQ (s,(s.length:Int),0)) 2 fun w=>∃ m:Nat,m <= s.length /\ w = (s,(s.length:Int),(m:Int)):=by
  rw [qqR]
  refine qfq (fun n:Nat=>(s,(s.length:Int),(n:Int))) s.length 2 (fun n _=>?_) 0 (Nat.zero_le _)
  simp only [qof,qrM]
  by_cases hn:n < s.length
  ·refine qaE (decide_eq_true (by omega)) ?_
   (repeat' (first | exact qah trivial | exact qaJ trivial | exact qaQ (by decide) | exact qbO ⟨hn,by simp only [qbH hn h9]⟩ | refine qaE (qkg hn) ?_ | refine qd8 (qkg hn) ?_ | refine qax (Q:=fun _=>True) ?_ (fun _ _=>?_) | refine qao (fun _=>?_) (fun _=>?_) | refine qbd (fun _=>?_) (fun _=>?_)))
  ·exact qbN (decide_eq_false (by omega)) (qaQ (by decide))
 rw [qAO,qo7]
 (repeat' (first | refine qdu ( hl) (fun _ _=>?_) (fun _ _=>?_) | exact qah trivial | exact qaJ trivial | exact qaQ (by decide) | refine qax (Q:=fun _=>True) ?_ (fun _ _=>?_) | refine qao (fun _=>?_) (fun _=>?_) | refine qbd (fun _=>?_) (fun _=>?_)))
theorem qbR (a b c:Int):Ok (qpO a b c) fun _=>True:=by
 rw [qAk,qoD]
 (repeat' (first | exact qah trivial | exact qaJ trivial | exact qaQ (by decide) | refine qax (Q:=fun _=>True) ?_ (fun _ _=>?_) | refine qao (fun _=>?_) (fun _=>?_) | refine qbd (fun _=>?_) (fun _=>?_)))
theorem qe3 {l:List Int} (h9:l.length <= 9223372036854775807) (a b:Int):Ok (qpI (EIn l) a b) fun _=>True:=by
 have hl:Lo (qqt (EIn l,a,b,((EIn l).length:Int),0)) 2 fun w=>∃ m:Nat,m <= l.length /\ w = (EIn l,a,b,((EIn l).length:Int),(m:Int)):=by
  rw [qqu]
  refine qfq (fun n:Nat=>(EIn l,a,b,((EIn l).length:Int),(n:Int))) l.length 2 (fun n _=>?_) 0 (Nat.zero_le _)
  simp only [qn4,qrD]
  by_cases hn:n < l.length
  ·refine qaE (qlz hn) ?_
   (repeat' (first | exact qah trivial | exact qaJ trivial | exact qaQ (by decide) | exact qbO ⟨hn,by simp only [qbH hn h9]⟩ | refine qaE (qxj hn) ?_ | refine qd8 (qxj hn) ?_ | refine qax (Q:=fun _=>True) (qbR _ _ _) (fun _ _=>?_) | refine qaE (qid (qbR _ _ _)) ?_ | refine qd8 (qid (qbR _ _ _)) ?_ | refine qax (Q:=fun _=>True) ?_ (fun _ _=>?_) | refine qao (fun _=>?_) (fun _=>?_) | refine qbd (fun _=>?_) (fun _=>?_)))
  ·exact qbN (qpj hn) (qaQ (by decide))
 rw [qz8,qor]
 (repeat' (first | refine qdu ( hl) (fun _ _=>?_) (fun _ _=>?_) | exact qah trivial | exact qaJ trivial | exact qaQ (by decide) | refine qax (Q:=fun _=>True) ?_ (fun _ _=>?_) | refine qao (fun _=>?_) (fun _=>?_) | refine qbd (fun _=>?_) (fun _=>?_)))
theorem qdq {l:List Int} (h9:l.length <= 9223372036854775807) (a b:Int):Ok (qj6 (EIn l) a b) fun _=>True:=by
 rw [qAz,qoS]
 refine qax (Q:=fun _=>True) ?_ (fun _ _=>qah trivial)
 rw [qz7,qoq]
 exact qax (qe3 h9 a b) (fun _ _=>qah trivial)
theorem qcA {l:List Int} (h9:l.length <= 9223372036854775807):Ok (qj3 (EIn l)) fun _=>True:=by
 rw [qAh,qoA]
 cases l with
 | nil=>
  have e0:Lo (qmy (EIn [],1)) 2 fun w=>w = (EIn [],1):=by rw [qkq]; exact qB6 (j:=1) rfl (by decide)
  exact qdu e0 (fun _ _=>qah trivial) (fun _ _=>qah trivial)
 | cons c r=>
  have hl:Lo (qmy (EIn (c :: r),1)) 2 fun w=>∃ m:Nat,m <= (c :: r).length /\ w = (EIn (c :: r),(m:Int)):=by
   rw [qkq]
   refine qCE (fun n:Nat=>(EIn (c :: r),(n:Int))) (c :: r).length 2 (fun n hn1 _=>?_) (by simp)
   simp only [qn8,qrG]
   by_cases hn:n < (c :: r).length
   ·refine qaE (qlz hn) ?_
    have hp:qcO [CS.int IntKind.i64] (EIn (c :: r)) (IntKind.wrap .i64 ((n:Int) - 1)) = true:=qKo (fun _=>rfl) hn hn1 h9
    (repeat' (first | exact qah trivial | exact qaJ trivial | exact qaQ (by decide) | exact qbO ⟨hn,by simp only [qbH hn h9]⟩ | refine qaE (qxj hn) ?_ | refine qd8 (qxj hn) ?_ | refine qaE (hp) ?_ | refine qd8 (hp) ?_ | refine qax (Q:=fun _=>True) ?_ (fun _ _=>?_) | refine qao (fun _=>?_) (fun _=>?_) | refine qbd (fun _=>?_) (fun _=>?_)))
   ·exact qbN (qpj hn) (qaQ (by decide))
  (repeat' (first | refine qdu ( hl) (fun _ _=>?_) (fun _ _=>?_) | exact qah trivial | exact qaJ trivial | exact qaQ (by decide) | refine qax (Q:=fun _=>True) ?_ (fun _ _=>?_) | refine qao (fun _=>?_) (fun _=>?_) | refine qbd (fun _=>?_) (fun _=>?_)))
theorem qEx (c:Bool) {o:Option Bool} (h:Ok o fun _=>True):Ok (br c (some true) (br (sm o) (some !gv o) none)) fun _=>True:=by
 cases c
 ·show Ok (br (sm o) (some !gv o) none) _
  exact qd8 (qid h) (qaJ trivial)
 ·exact qaJ trivial
theorem qhA {s:Bs} {ws hs:List Int} (h0:s.length <= 9223372036854775807) (hw:ws.length <= 9223372036854775807) (hh:hs.length <= 9223372036854775807):Ok (qp1 s (EIn ws) (EIn hs)) fun _=>True:=by
 rw [qAC,qoV]
 refine qax (qiE h0) fun _ _=>qao (fun _=>qah trivial) fun _=>qax (qEx _ (qdq hw 0 6)) fun _ _=>qax (qEx _ (qcA hw)) fun _ _=>qao (fun _=>qah trivial) fun _=>qao (fun _=>qah trivial) fun _=>?_
 exact qax (qdq hh 0 73048) fun _ _=>qao (fun _=>qah trivial) fun _=>qax (qcA hh) fun _ _=>qao (fun _=>qah trivial) fun _=>qah trivial
def qiN (x0 x1 x2 x3 x4 x5 x6 x7 x8 x9:Int):Prop:=((0 <= x8 /\ x8 <= 1000000) /\ 0 <= x9 /\ x9 <= 1000000) /\ (1 <= x0 /\ x0 <= 4) /\ (1 <= x1 /\ x1 <= 1000000000000) /\ (0 <= x2 /\ x2 <= 1000000) /\ (0 <= x3 /\ x3 <= 73048) /\ (1 <= x4 /\ x4 <= 12) /\ (1 <= x5 /\ x5 <= 120) /\ (1 <= x7 /\ x7 <= 6)
theorem qib (x0 x1 x2 x3 x4 x5 x6 x7 x8 x9:Int) (x10 x11:Bs) {s:Bs} {ws hs:List Int} (h0:s.length <= 9223372036854775807) (hw:ws.length <= 9223372036854775807) (hh:hs.length <= 9223372036854775807) :
  Ok (qp6 x0 x1 x2 x3 x4 x5 x6 x7 x8 x9 x10 x11 s (EIn ws) (EIn hs)) fun e=>e = 0 -> qiN x0 x1 x2 x3 x4 x5 x6 x7 x8 x9:=by
 rw [qAI,qo1]
 simp only [qwU,qaU,qfJ,sm_some,gv_some,qFm,qc2,qjF,ev_bi_some]
 refine qao (fun _=>qah (fun h=>by cases h)) (fun h=>?_)
 have ht:qiN x0 x1 x2 x3 x4 x5 x6 x7 x8 x9:=by
  simp only [Bool.or_eq_false_iff,Bool.not_eq_false',Bool.and_eq_true,decide_eq_true_eq] at h
  unfold qiN
  omega
 refine qam rfl (qam rfl (qao (fun _=>qah (fun h=>by cases h)) (fun _=>?_)))
 refine qao (fun _=>qah (fun h=>by cases h)) (fun _=>?_)
 refine qax (qhA h0 hw hh) (fun y _=>?_)
 refine qao (fun _=>qah fun _=>ht) (fun _=>?_)
 exact qao (fun _=>qah fun _=>ht) (fun _=>qah fun _=>ht)
end Go.Proofs.H35
