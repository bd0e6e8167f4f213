/- Products: short ones, the document's comparisons. -/
import Derived.Test.YthljpgljbpdmjaaGreatDoorX15pPrd
set_option linter.unusedVariables false
set_option linter.unusedSimpArgs false
set_option linter.unnecessarySimpa false
namespace Go.Proofs.H15p
open Go Go.Eng Go.Tk
set_option maxRecDepth 20000
theorem qR9:∀ (n k:Nat),n < k -> n <= 100 -> ∀ e:Ex,qc5 k e.op e.num e.txt (EX e.args) (n:Int) = some (qbJ n e):=by
 intro n
 induction n with
 | zero=>
  intro k hk _ e
  obtain ⟨k,rfl⟩:∃ k',k = k' + 1:=⟨k - 1,by omega⟩
  rfl
 | succ n ih=>
  intro k hk h100 e
  obtain ⟨k,rfl⟩:∃ k',k = k' + 1:=⟨k - 1,by omega⟩
  show (qmB (qc5 k) e.op e.num e.txt (EX e.args) ((n + 1:Nat):Int)).ev = _
  have e0:((((n + 1:Nat):Int)) == 0) = false:=by simp; omega
  have e1:decide (((EX e.args).length:Int) > 8) = decide (e.args.length > 8):=by rw [List.length_map]; congr 1; exact propext ⟨fun h=>by omega,fun h=>by omega⟩
  have e2:decide ((e.txt.length:Int) > 40) = decide (e.txt.length > 40):=by congr 1; exact propext ⟨fun h=>by omega,fun h=>by omega⟩
  rw [qmB,e0,e1,e2,qd6,ev_bi_some,qd6,ev_bi_some,ev_br,qbJ,Bool.false_or]
  by_cases h8:e.args.length > 8
  ·rw [decide_eq_true h8]; rfl
  ·rw [decide_eq_false h8,Bool.false_or]
   cases decide (e.txt.length > 40)
   ·have hloop:∃ w,qoY (qc5 k) (((n + 1:Nat):Int),0,e.op,e.num,e.txt,EX e.args) = some (bif e.args.any (qbJ n) then 0 else 1,w):=by
     have h:=qaz (st:=fun v=>(qhg (qc5 k) v).ev) (l:=e.args) (hd:=fun i=>(((n + 1:Nat):Int),(i:Int),e.op,e.num,e.txt,EX e.args)) (jx:=fun _=>0) (qbJ n) 1 (fun i hn=>?_) ?_
     ·rw [qax] at h
      rw [qsr]; exact ⟨_,h⟩
     ·have w1:IntKind.i64.wrap (((n + 1:Nat):Int) - 1) = (n:Int):=by rw [wrap64 (by omega) (by omega)]; omega
      simp only [qhg,qky,List.length_map,qaI hn,okX hn,qx0 hn,qx1 hn,qx2 hn,qx3 hn,w1,ih k (by omega) (by omega) e.args[i],ev_bi_some,ev_br,ev_at,cond_true,qah hn (show e.args.length <= big by simp only [big]; omega)]
      cases qbJ n e.args[i] <;> rfl
     ·simp [qhg,qky]
    obtain ⟨w,h⟩:=hloop
    rw [h]
    cases e.args.any (qbJ n) <;> simp (decide:=true)
   ·rfl
theorem qoe (e:Ex):qh0 e.op e.num e.txt (EX e.args) 12 = some (qbJ 12 e):=qb0 (n:=13) fun k hk=>qR9 12 k (by omega) (by omega) e
abbrev HdP (p:Pr) (i:Int):qcM:=(i,p.name,p.cur,p.cal,p.from_,p.every,p.over,p.tax,ETr p.cr.tiers,p.cr.marg,p.cr.basis,p.cr.mode,p.cr.keep,ETr p.de.tiers,p.de.marg,p.de.basis,p.de.mode,p.de.keep,EF p.fees,ER p.rules)
theorem qzK (p:Pr):qor p.name p.cur p.cal p.from_ p.every p.over p.tax (ETr p.cr.tiers) p.cr.marg p.cr.basis p.cr.mode p.cr.keep (ETr p.de.tiers) p.de.marg p.de.basis p.de.mode p.de.keep (EF p.fees) (ER p.rules) = some (qVp p):=by
 have d:∀ {α:Type} (f:α -> AV) (l:List α),decide (((l.map f).length:Int) > 12) = decide (l.length > 12):=by
  intro α f l
  rw [List.length_map]; congr 1; exact propext ⟨fun h=>by omega,fun h=>by omega⟩
 rw [qEg,qmT,d,d,d,d,qd6,ev_bi_some,qd6,ev_bi_some,qd6,ev_bi_some,ev_br,qVp]
 by_cases hb:(((decide (p.fees.length > 12) || decide (p.rules.length > 12)) || decide (p.cr.tiers.length > 12)) || decide (p.de.tiers.length > 12)) = true
 ·rw [hb]; rfl
 ·have hb':(((decide (p.fees.length > 12) || decide (p.rules.length > 12)) || decide (p.cr.tiers.length > 12)) || decide (p.de.tiers.length > 12)) = false:=by simpa using hb
  rw [hb']
  simp only [Bool.or_eq_false_iff,decide_eq_false_iff_not] at hb'
  obtain ⟨⟨⟨hf,hr⟩,_⟩,_⟩:=hb'
  have l0:qo3 (HdP p 0) = some (bif p.fees.any (fun x=>qbJ 12 x.when_ || qbJ 12 x.amount) then 0 else 1,HdP p ((p.fees.findIdx fun x=>qbJ 12 x.when_ || qbJ 12 x.amount:Nat):Int)):=by
   have h:=qaz (st:=fun v=>(qhh v).ev) (l:=p.fees) (hd:=fun i=>HdP p (i:Int)) (jx:=fun _=>0) (fun x=>qbJ 12 x.when_ || qbJ 12 x.amount) 1 (fun i hn=>?_) ?_
   ·rw [qax] at h
    rw [qsx]; exact h
   ·simp only [qhh,qkE,List.length_map,qaI hn,okF hn,qf2 hn,qf3 hn,qf4 hn,qf5 hn,qf6 hn,qf7 hn,qf8 hn,qf9 hn,qoe,ev_bi_some,sm_some,gv_some,ev_br,ev_at,br_eq,cond_true,qah hn (show p.fees.length <= big by simp only [big]; omega)]
    cases qbJ 12 p.fees[i].when_ <;> cases qbJ 12 p.fees[i].amount <;> rfl
   ·simp [qhh,qkE]
  have l1:∀ q:Int,∃ w,qo4 (HdP p 0) = some (bif p.rules.any (fun x=>qbJ 12 x.amount) then 0 else 1,w):=by
   intro _
   have h:=qaz (st:=fun v=>(qhi v).ev) (l:=p.rules) (hd:=fun i=>HdP p (i:Int)) (jx:=fun _=>0) (fun x=>qbJ 12 x.amount) 1 (fun i hn=>?_) ?_
   ·rw [qax] at h
    rw [qsy]; exact ⟨_,h⟩
   ·simp only [qhi,qkF,List.length_map,qaI hn,okR hn,qr2 hn,qr3 hn,qr4 hn,qr5 hn,qoe,ev_bi_some,ev_br,ev_at,cond_true,qah hn (show p.rules.length <= big by simp only [big]; omega)]
    cases qbJ 12 p.rules[i].amount <;> rfl
   ·simp [qhi,qkF]
  obtain ⟨w,h1⟩:=l1 0
  simp only [HdP] at l0 h1
  rw [l0]
  cases p.fees.any (fun x=>qbJ 12 x.when_ || qbJ 12 x.amount)
  ·simp (decide:=true) only [cond_false,pj_some,if_true,if_false,ev_bi_none,ev_bi_some,h1]
   cases p.rules.any (fun x=>qbJ 12 x.amount) <;> simp (decide:=true)
  ·simp (decide:=true)
theorem qAZ {p:Pr} (h:qVp p = true):p.fees.length <= 12 /\ p.rules.length <= 12 /\ p.cr.tiers.length <= 12 /\ p.de.tiers.length <= 12 /\ (∀ x ∈ p.fees,qbJ 12 x.when_ = false /\ qbJ 12 x.amount = false) /\ ∀ x ∈ p.rules,qbJ 12 x.amount = false:=by
 simp only [qVp] at h
 cases h1:(((decide (p.fees.length > 12) || decide (p.rules.length > 12)) || decide (p.cr.tiers.length > 12)) || decide (p.de.tiers.length > 12)) with
 | true=>rw [h1] at h; cases h
 | false=>
  rw [h1] at h
  simp only [cond_false,Bool.and_eq_true,Bool.not_eq_true',List.any_eq_false,Bool.or_eq_true,not_or] at h
  simp only [Bool.or_eq_false_iff,decide_eq_false_iff_not] at h1
  refine ⟨by omega,by omega,by omega,by omega,fun x hx=>?_,fun x hx=>?_⟩
  ·have:=h.1 x hx; simpa using this
  ·have:=h.2 x hx; simpa using this
theorem qCu:∀ (n:Nat) (e:Ex),qbJ n e = false -> e.allX (fun x=>decide (x.args.length <= 8)) = true:=by
 intro n
 induction n with
 | zero=>intro e h; cases h
 | succ n ih=>
  intro e h
  simp only [qbJ,Bool.or_eq_false_iff,decide_eq_false_iff_not,List.any_eq_false] at h
  rw [Ex.allX_eq,Bool.and_eq_true,List.all_eq_true]
  exact ⟨decide_eq_true (by omega),fun x hx=>ih x (by simpa using h.2.2 x hx)⟩
theorem qvN {p q:Ex -> Bool} (hpq:∀ x,p x = true -> q x = true):∀ e:Ex,e.allX p = true -> e.allX q = true:=by
 intro e
 induction e using Ex.ind with
 | h o n s l ih=>
  intro h
  rw [Ex.allX_eq,Bool.and_eq_true,List.all_eq_true] at h ⊢
  exact ⟨hpq _ h.1,fun x hx=>ih x hx (h.2 x hx)⟩
theorem qkR {e:Ex} (h:qbJ 12 e = false):Wd e:=qvN (fun x hx=>decide_eq_true (Nat.le_trans (of_decide_eq_true hx) (by decide))) e (qCu 12 e h)
end Go.Proofs.H15p
