/- Expressions: what the printed functions come to. -/
import Derived.Test.YthljpgljbpdmjaaGreatDoorX15pTok
import Derived.Test.YthljpgljbpdmjaaGreatDoorExA
set_option linter.unusedVariables false
set_option linter.unusedSimpArgs false
set_option linter.unnecessarySimpa false
namespace Go.Proofs.H15p
open Go Go.Eng Go.Tk
set_option maxRecDepth 20000
theorem qzf {e:Ex} (h:e.nodes <= big):qtF e.op e.num e.txt (EX e.args) = some (e.nodes:Int):=by
 refine qb0 (n:=e.dep) ?_
 induction e using Ex.ind with
 | h o n s l ih=>
  intro m hm
  cases m with
  | zero=>simp [Ex.dep] at hm
  | succ k=>
   simp only [Ex.op,Ex.num,Ex.txt,Ex.args,qem,quI]
   simp only [Ex.nodes,Ex.dep] at h hm
   have hll:=Ex.nodesL_len l
   have key:qBF (qem k) (1,EX l,((EX l).length:Int),0) = some (0,((l.foldl (fun a x=>a + Ex.nodes x) 1:Nat):Int),EX l,(l.length:Int),(l.length:Int)):=by
    rw [qxf]
    refine qpc (l:=l) (hd:=fun n a=>(((a:Nat):Int),EX l,((EX l).length:Int),(n:Int))) (f:=fun a x=>a + Ex.nodes x) (jx:=fun _=>0) (inv:=fun n a=>a = 1 + Ex.nodesL (l.take n)) ?_ ?_ ?_ ?_ |>.trans ?_
    ·simp [Ex.nodesL]
    ·intro n a hn ha
     rw [ha,List.take_succ_eq_append_getElem hn,Ex.nodesL_app]; simp [Ex.nodesL]; omega
    ·intro n a hn ha
     have hx:l[n] ∈ l:=List.getElem_mem hn
     have h1:=Ex.nodesL_mem hx
     have h2:=Ex.depL_mem hx
     have hs:Ex.nodesL (l.take (n + 1)) <= Ex.nodesL l:=by
      conv=>rhs; rw [<- List.take_append_drop (n + 1) l,Ex.nodesL_app]
      omega
     rw [List.take_succ_eq_append_getElem hn,Ex.nodesL_app] at hs
     simp only [Ex.nodesL] at hs
     have hw:IntKind.i64.wrap ((a:Int) + (l[n].nodes:Int)) = ((a + l[n].nodes:Nat):Int):=by
      simp only [big] at h
      rw [wrap64 (by omega) (by omega)]; simp
     have hg:=ih l[n] hx (by omega) k (by omega)
     simp only [qqN,qqO,List.length_map,qaI hn,okX hn,qx0 hn,qx1 hn,qx2 hn,qx3 hn,hg,ev_br,ev_at,ev_bi_some,cond_true,hw,qah hn (show l.length <= big by omega)]
    ·intro a ha
     simp [qqN,qqO]
    ·simp
   rw [key,Ex.nodes_fold]
   simp only [pj_some,if_true,ev_bi_some,ev_at,Ex.nodes]
   congr 2; omega
theorem qzg {e:Ex} (h:e.nodes <= big):qnX e.op e.num e.txt (EX e.args) = some (e.dep:Int):=by
 refine qb0 (n:=e.dep) ?_
 induction e using Ex.ind with
 | h o n s l ih=>
  intro m hm
  cases m with
  | zero=>simp [Ex.dep] at hm
  | succ k=>
   have hdl:=Ex.dep_le (.mk o n s l)
   simp only [Ex.op,Ex.num,Ex.txt,Ex.args,qen,quJ]
   simp only [Ex.nodes,Ex.dep] at h hm hdl
   have hll:=Ex.nodesL_len l
   have key:qBG (qen k) (0,EX l,((EX l).length:Int),0) = some (0,((l.foldl (fun a x=>max a (Ex.dep x)) 0:Nat):Int),EX l,(l.length:Int),(l.length:Int)):=by
    rw [qxg]
    refine qpc (l:=l) (hd:=fun n a=>(((a:Nat):Int),EX l,((EX l).length:Int),(n:Int))) (f:=fun a x=>max a (Ex.dep x)) (jx:=fun _=>0) (inv:=fun _ _=>True) trivial (fun _ _ _ _=>trivial) ?_ ?_ |>.trans ?_
    ·intro n a hn _
     have hx:l[n] ∈ l:=List.getElem_mem hn
     have h1:=Ex.nodesL_mem hx
     have h2:=Ex.depL_mem hx
     have hg:=ih l[n] hx (by omega) k (by omega)
     have hm:(if (l[n].dep:Int) > (a:Int) then (l[n].dep:Int) else (a:Int)) = ((max a l[n].dep:Nat):Int):=by
      by_cases hc:a < l[n].dep
      ·rw [if_pos (by omega),Nat.max_eq_right (by omega)]
      ·rw [if_neg (by omega),Nat.max_eq_left (by omega)]
     simp only [qqP,qqQ,List.length_map,qaI hn,okX hn,qx0 hn,qx1 hn,qx2 hn,qx3 hn,hg,ev_br,ev_at,ev_bi_some,cond_true,hm,qah hn (show l.length <= big by omega)]
    ·intro a _
     simp [qqP,qqQ]
    ·simp
   rw [key,Ex.dep_fold]
   have hw:IntKind.i64.wrap (((max 0 (Ex.depL l):Nat):Int) + 1) = ((Ex.depL l + 1:Nat):Int):=by
    simp only [big] at h
    rw [Nat.zero_max,wrap64 (by omega) (by omega)]; simp
   simp only [pj_some,if_true,ev_bi_some,ev_at,Ex.dep,hw]
theorem qEG (op:Int):qk4 op = some (qaV op):=by
 rw [qJF,qvh]
 by_cases h1:op = 1
 ·subst h1; rfl
 by_cases h2:op = 2
 ·subst h2; rfl
 by_cases h3:op = 3
 ·subst h3; rfl
 by_cases h4:op = 4
 ·subst h4; rfl
 by_cases h5:op = 9
 ·subst h5; rfl
 by_cases h6:op = 16
 ·subst h6; rfl
 by_cases h7:op = 19
 ·subst h7; rfl
 have e1:(op == 1) = false:=by simpa using h1
 have e2:(op == 2) = false:=by simpa using h2
 have e3:(op == 3) = false:=by simpa using h3
 have e4:(op == 4) = false:=by simpa using h4
 have e5:(op == 9) = false:=by simpa using h5
 have e6:(op == 16) = false:=by simpa using h6
 have e7:(op == 19) = false:=by simpa using h7
 simp only [e1,e2,e3,e4,e5,e6,e7,ev_br,ev_at,cond_false,qaV,h1,h2,h3,h4,h5,h6,h7,or_self,if_false,br_eq,cond_some,ev_bi_some]
 by_cases h8:5 <= op <;> by_cases h9:op <= 18 <;> simp [h8,h9]
theorem qy6 (e:Ex):qnM e.op e.num e.txt (EX e.args) = some (qaF e):=by
 rw [qDj,qlU]
 simp only [qEG,ev_bi_some,ev_br,ev_at,cond_some,qaF,qgc,List.length_map]
 by_cases h1:e.op = 1
 ·simp only [h1]; cases (qaV 1 == (e.args.length:Int)) <;> cases decide (e.num >= 0) <;> cases (e.txt == []) <;> simp
 by_cases h2:e.op = 2
 ·simp only [h2]; cases (qaV 2 == (e.args.length:Int)) <;> cases decide (e.num >= 0) <;> cases (e.txt == []) <;> simp
 by_cases h3:e.op = 3
 ·simp only [h3]; cases (qaV 3 == (e.args.length:Int)) <;> cases decide (e.num >= 0) <;> cases (e.txt == []) <;> simp
 have e1:(e.op == 1) = false:=by simpa using h1
 have e2:(e.op == 2) = false:=by simpa using h2
 have e3:(e.op == 3) = false:=by simpa using h3
 simp only [e1,e2,e3,h1,h2,h3,if_false,cond_false]
 cases (qaV e.op == (e.args.length:Int)) <;> cases decide (e.num >= 0) <;> cases decide (e.num <= 0) <;> cases (e.txt == []) <;> rfl
theorem qEH (s:Bs):qrW s = some (qkU s):=by
 rw [qJG,qvi,qEB,qkU]
 simp only [ev_bi_some,br_eq,cond_some,List.length_map]
 cases h0:((qkS s).2.2 == 0)
 ·simp
 ·cases hl:(qkS s).1 with
  | nil=>simp
  | cons t l=>
   cases l with
   | nil=>
    have e1:qaD ksT (ET [t]) 0 = true:=okT (l:=[t]) (n:=0) (by simp)
    have e2:intOf (cellAt (ET [t]) 0 0) = t.kind:=qt0 (l:=[t]) (n:=0) (by simp)
    have e3:strOf (cellAt (ET [t]) 0 2) = t.text:=qt2 (l:=[t]) (n:=0) (by simp)
    simp only [cond_true,e1,e2,e3,List.length_cons,List.length_nil,List.head?_cons]
    cases hk:(t.kind == 1) <;> simp
   | cons u l=>
    have:(((t :: u :: l).length:Int) == 1) = false:=by simp; omega
    simp only [this,cond_true,cond_false,ev_bi_some,ev_at]
    simp
theorem qzi (e:Ex):qnY e.op e.num e.txt (EX e.args) = some (qbf e):=by
 rw [qDB,qme,qEH,qbf]
 cases (e.op != 4) <;> simp
theorem qJa:∀ (e:Ex),e.nodes <= big -> ∀ n,4 * e.dep <= n -> (qao n).1 e.op e.num e.txt (EX e.args) = some (e.allX qaF):=by
 intro e
 induction e using Ex.ind with
 | h o n s l ih=>
  intro h m hm
  have hll:=Ex.nodesL_len l
  have hal:=Ex.allX_eq qaF (.mk o n s l)
  simp only [Ex.nodes,Ex.dep] at h hm
  obtain ⟨k,rfl⟩:∃ k,m = k + 4:=⟨m - 4,by omega⟩
  have hloop:qwy ((qao (k + 1)).1) ((qao (k + 1)).2.1) ((qao (k + 1)).2.2.1) ((qao (k + 1)).2.2.2) (EX l,((EX l).length:Int),0) = some (qgE (fun x=>!Ex.allX qaF x) (fun _=>0) 1 l,EX l,((EX l).length:Int),((l.findIdx (fun x=>!Ex.allX qaF x):Nat):Int)):=by
   rw [qwz]
   refine qaz (hd:=fun n=>(EX l,((EX l).length:Int),(n:Int))) (jx:=fun _=>0) _ 1 (fun n hn=>?_) ?_
   ·have hx:l[n] ∈ l:=List.getElem_mem hn
    have h1:=Ex.nodesL_mem hx
    have h2:=Ex.depL_mem hx
    have hg:=ih l[n] hx (by omega) k (by omega)
    have hg1:(qao (k + 1)).2.2.2 l[n].op l[n].num l[n].txt (EX l[n].args) = some (!l[n].allX qaF):=by
     simp only [qao,qAB,hg,ev_bi_some,ev_at]
    simp only [qp5,qp6,List.length_map,qaI hn,okX hn,qx0 hn,qx1 hn,qx2 hn,qx3 hn,hg1,ev_br,ev_at,ev_bi_some,cond_true,qah hn (show l.length <= big by omega)]
    cases l[n].allX qaF <;> rfl
   ·simp [qp5,qp6]
  have hidx:(qao (k + 2)).2.2.1 (EX l) = some (if l.any (fun x=>!Ex.allX qaF x) then ((l.findIdx (fun x=>!Ex.allX qaF x):Nat):Int) else -1):=by
   rw [qao]
   simp only [qAy,hloop,qax]
   cases l.any (fun x=>!Ex.allX qaF x) <;> simp
  have hcon:(qao (k + 3)).2.1 (EX l) = some (l.any (fun x=>!Ex.allX qaF x)):=by
   rw [qao]
   simp only [qPE,hidx,ev_bi_some,ev_at]
   cases l.any (fun x=>!Ex.allX qaF x) <;> simp
  rw [qao]
  have hf:=qy6 (.mk o n s l)
  simp only [Ex.op,Ex.num,Ex.txt,Ex.args] at hf ⊢
  simp only [quK,hf,hcon,ev_bi_some,sm_some,gv_some,br_eq,cond_true]
  rw [hal,Ex.args]
  have hna:(!l.any (fun x=>!Ex.allX qaF x)) = l.all (Ex.allX qaF):=by
   rw [List.not_any_eq_all_not]; simp
  cases qaF (.mk o n s l) <;> simp [hna]
theorem qzh {e:Ex} (h:e.nodes <= big):qtG e.op e.num e.txt (EX e.args) = some (e.allX qaF):=
 qb0 (qJa e h)
theorem qCY:∀ (e:Ex),e.nodes <= big -> ∀ n,4 * e.dep <= n -> (qan n).1 e.op e.num e.txt (EX e.args) = some (e.allX qbf):=by
 intro e
 induction e using Ex.ind with
 | h o n s l ih=>
  intro h m hm
  have hll:=Ex.nodesL_len l
  have hal:=Ex.allX_eq qbf (.mk o n s l)
  simp only [Ex.nodes,Ex.dep] at h hm
  obtain ⟨k,rfl⟩:∃ k,m = k + 4:=⟨m - 4,by omega⟩
  have hloop:qww ((qan (k + 1)).1) ((qan (k + 1)).2.1) ((qan (k + 1)).2.2.1) ((qan (k + 1)).2.2.2) (EX l,((EX l).length:Int),0) = some (qgE (fun x=>!Ex.allX qbf x) (fun _=>0) 1 l,EX l,((EX l).length:Int),((l.findIdx (fun x=>!Ex.allX qbf x):Nat):Int)):=by
   rw [qwx]
   refine qaz (hd:=fun n=>(EX l,((EX l).length:Int),(n:Int))) (jx:=fun _=>0) _ 1 (fun n hn=>?_) ?_
   ·have hx:l[n] ∈ l:=List.getElem_mem hn
    have h1:=Ex.nodesL_mem hx
    have h2:=Ex.depL_mem hx
    have hg:=ih l[n] hx (by omega) k (by omega)
    have hg1:(qan (k + 1)).2.2.2 l[n].op l[n].num l[n].txt (EX l[n].args) = some (!l[n].allX qbf):=by
     simp only [qan,qAA,hg,ev_bi_some,ev_at]
    simp only [qp3,qp4,List.length_map,qaI hn,okX hn,qx0 hn,qx1 hn,qx2 hn,qx3 hn,hg1,ev_br,ev_at,ev_bi_some,cond_true,qah hn (show l.length <= big by omega)]
    cases l[n].allX qbf <;> rfl
   ·simp [qp3,qp4]
  have hidx:(qan (k + 2)).2.2.1 (EX l) = some (if l.any (fun x=>!Ex.allX qbf x) then ((l.findIdx (fun x=>!Ex.allX qbf x):Nat):Int) else -1):=by
   rw [qan]
   simp only [qAx,hloop,qax]
   cases l.any (fun x=>!Ex.allX qbf x) <;> simp
  have hcon:(qan (k + 3)).2.1 (EX l) = some (l.any (fun x=>!Ex.allX qbf x)):=by
   rw [qan]
   simp only [qPD,hidx,ev_bi_some,ev_at]
   cases l.any (fun x=>!Ex.allX qbf x) <;> simp
  rw [qan]
  have hf:=qzi (.mk o n s l)
  simp only [Ex.op,Ex.num,Ex.txt,Ex.args] at hf ⊢
  simp only [quF,hf,hcon,ev_bi_some,sm_some,gv_some,br_eq,cond_true]
  rw [hal,Ex.args]
  have hna:(!l.any (fun x=>!Ex.allX qbf x)) = l.all (Ex.allX qbf):=by
   rw [List.not_any_eq_all_not]; simp
  cases qbf (.mk o n s l) <;> simp [hna]
theorem qy5 {e:Ex} (h:e.nodes <= big):qtE e.op e.num e.txt (EX e.args) = some (e.allX qbf):=
 qb0 (qCY e h)
theorem qrV {e:Ex} (h:e.nodes <= big):qoA e.op e.num e.txt (EX e.args) = some (qbO e):=by
 rw [qJE,qvg,qzf h,qzg h,qzh h,qy5 h,qbO]
 have e1:decide ((e.nodes:Int) > 64) = decide (e.nodes > 64):=by
  by_cases h:e.nodes > 64 <;> simp [h] <;> omega
 have e2:decide (gv (some (e.dep:Int)) > 8) = decide (e.dep > 8):=by
  show decide ((e.dep:Int) > 8) = _
  by_cases h:e.dep > 8 <;> simp [h] <;> omega
 simp only [ev_bi_some,br_eq,sm_some,e1,e2]
 cases decide (e.nodes > 64) <;> cases decide (e.dep > 8) <;> cases e.allX qaF <;> cases e.allX qbf <;> rfl
end Go.Proofs.H15p
