/- Expressions: what the printed functions come to. -/
import Derived.Test.YtgpbobelbcbcaaaGreatDoorX10Tok
import Derived.Test.YtgpbobelbcbcaaaGreatDoorExA
set_option linter.unusedVariables false
set_option linter.unusedSimpArgs false
set_option linter.unnecessarySimpa false
namespace Go.Proofs.H10
open Go Go.Eng Go.Tk
set_option maxRecDepth 20000
theorem qig {e:Ex} (h:e.nodes <= big):qe9 e.op e.num e.txt (EX e.args) = some (e.nodes:Int):=by
 refine qb3 (n:=e.dep) ?_
 induction e using Ex.ind with
 | h o n s l ih=>
  intro m hm
  cases m with
  | zero=>simp [Ex.dep] at hm
  | succ k=>
   simp only [Ex.op,Ex.num,Ex.txt,Ex.args,qe1,qr1]
   simp only [Ex.nodes,Ex.dep] at h hm
   have hll:=Ex.nodesL_len l
   have key:qyI (qe1 k) (1,EX l,((EX l).length:Int),0) = some (0,((l.foldl (fun a x=>a + Ex.nodes x) 1:Nat):Int),EX l,(l.length:Int),(l.length:Int)):=by
    rw [qt7]
    refine qg5 (l:=l) (hd:=fun n a=>(((a:Nat):Int),EX l,((EX l).length:Int),(n:Int))) (f:=fun a x=>a + Ex.nodes x) (jx:=fun _=>0) (inv:=fun n a=>a = 1 + Ex.nodesL (l.take n)) ?_ ?_ ?_ ?_ |>.trans ?_
    ·simp [Ex.nodesL]
    ·intro n a hn ha
     rw [ha,List.take_succ_eq_append_getElem hn,Ex.nodesL_app]; simp [Ex.nodesL]; omega
    ·intro n a hn ha
     have hx:l[n] ∈ l:=List.getElem_mem hn
     have h1:=Ex.nodesL_mem hx
     have h2:=Ex.depL_mem hx
     have hs:Ex.nodesL (l.take (n + 1)) <= Ex.nodesL l:=by
      conv=>rhs; rw [<- List.take_append_drop (n + 1) l,Ex.nodesL_app]
      omega
     rw [List.take_succ_eq_append_getElem hn,Ex.nodesL_app] at hs
     simp only [Ex.nodesL] at hs
     have hw:IntKind.i64.wrap ((a:Int) + (l[n].nodes:Int)) = ((a + l[n].nodes:Nat):Int):=by
      simp only [big] at h
      rw [wrap64 (by omega) (by omega)]; simp
     have hg:=ih l[n] hx (by omega) k (by omega)
     simp only [qoD,qoE,List.length_map,qbn hn,okX hn,qx0 hn,qx1 hn,qx2 hn,qx3 hn,hg,ev_br,ev_at,ev_bi_some,cond_true,hw,qat hn (show l.length <= big by omega)]
    ·intro a ha
     simp [qoD,qoE]
    ·simp
   rw [key,Ex.nodes_fold]
   simp only [pj_some,if_true,ev_bi_some,ev_at,Ex.nodes]
   congr 2; omega
theorem qwy {e:Ex} (h:e.nodes <= big):qmx e.op e.num e.txt (EX e.args) = some (e.dep:Int):=by
 refine qb3 (n:=e.dep) ?_
 induction e using Ex.ind with
 | h o n s l ih=>
  intro m hm
  cases m with
  | zero=>simp [Ex.dep] at hm
  | succ k=>
   have hdl:=Ex.dep_le (.mk o n s l)
   simp only [Ex.op,Ex.num,Ex.txt,Ex.args,qe2,qr2]
   simp only [Ex.nodes,Ex.dep] at h hm hdl
   have hll:=Ex.nodesL_len l
   have key:qyJ (qe2 k) (0,EX l,((EX l).length:Int),0) = some (0,((l.foldl (fun a x=>max a (Ex.dep x)) 0:Nat):Int),EX l,(l.length:Int),(l.length:Int)):=by
    rw [qt8]
    refine qg5 (l:=l) (hd:=fun n a=>(((a:Nat):Int),EX l,((EX l).length:Int),(n:Int))) (f:=fun a x=>max a (Ex.dep x)) (jx:=fun _=>0) (inv:=fun _ _=>True) trivial (fun _ _ _ _=>trivial) ?_ ?_ |>.trans ?_
    ·intro n a hn _
     have hx:l[n] ∈ l:=List.getElem_mem hn
     have h1:=Ex.nodesL_mem hx
     have h2:=Ex.depL_mem hx
     have hg:=ih l[n] hx (by omega) k (by omega)
     have hm:(if (l[n].dep:Int) > (a:Int) then (l[n].dep:Int) else (a:Int)) = ((max a l[n].dep:Nat):Int):=by
      by_cases hc:a < l[n].dep
      ·rw [if_pos (by omega),Nat.max_eq_right (by omega)]
      ·rw [if_neg (by omega),Nat.max_eq_left (by omega)]
     simp only [qoF,qoG,List.length_map,qbn hn,okX hn,qx0 hn,qx1 hn,qx2 hn,qx3 hn,hg,ev_br,ev_at,ev_bi_some,cond_true,hm,qat hn (show l.length <= big by omega)]
    ·intro a _
     simp [qoF,qoG]
    ·simp
   rw [key,Ex.dep_fold]
   have hw:IntKind.i64.wrap (((max 0 (Ex.depL l):Nat):Int) + 1) = ((Ex.depL l + 1:Nat):Int):=by
    simp only [big] at h
    rw [Nat.zero_max,wrap64 (by omega) (by omega)]; simp
   simp only [pj_some,if_true,ev_bi_some,ev_at,Ex.dep,hw]
theorem qAN (op:Int):qkN op = some (qaE op):=by
 rw [qEA,qsH]
 by_cases h1:op = 1
 ·subst h1; rfl
 by_cases h2:op = 2
 ·subst h2; rfl
 by_cases h3:op = 3
 ·subst h3; rfl
 by_cases h4:op = 4
 ·subst h4; rfl
 by_cases h5:op = 9
 ·subst h5; rfl
 by_cases h6:op = 16
 ·subst h6; rfl
 by_cases h7:op = 19
 ·subst h7; rfl
 have e1:(op == 1) = false:=by simpa using h1
 have e2:(op == 2) = false:=by simpa using h2
 have e3:(op == 3) = false:=by simpa using h3
 have e4:(op == 4) = false:=by simpa using h4
 have e5:(op == 9) = false:=by simpa using h5
 have e6:(op == 16) = false:=by simpa using h6
 have e7:(op == 19) = false:=by simpa using h7
 simp only [e1,e2,e3,e4,e5,e6,e7,ev_br,ev_at,cond_false,qaE,h1,h2,h3,h4,h5,h6,h7,or_self,if_false,br_eq,cond_some,ev_bi_some]
 by_cases h8:5 <= op <;> by_cases h9:op <= 18 <;> simp [h8,h9]
theorem qws (e:Ex):qmp e.op e.num e.txt (EX e.args) = some (qaK e):=by
 rw [qz5,qlk]
 simp only [qAN,ev_bi_some,ev_br,ev_at,cond_some,qaK,qdO,List.length_map]
 by_cases h1:e.op = 1
 ·simp only [h1]; cases (qaE 1 == (e.args.length:Int)) <;> cases decide (e.num >= 0) <;> cases (e.txt == []) <;> simp
 by_cases h2:e.op = 2
 ·simp only [h2]; cases (qaE 2 == (e.args.length:Int)) <;> cases decide (e.num >= 0) <;> cases (e.txt == []) <;> simp
 by_cases h3:e.op = 3
 ·simp only [h3]; cases (qaE 3 == (e.args.length:Int)) <;> cases decide (e.num >= 0) <;> cases (e.txt == []) <;> simp
 have e1:(e.op == 1) = false:=by simpa using h1
 have e2:(e.op == 2) = false:=by simpa using h2
 have e3:(e.op == 3) = false:=by simpa using h3
 simp only [e1,e2,e3,h1,h2,h3,if_false,cond_false]
 cases (qaE e.op == (e.args.length:Int)) <;> cases decide (e.num >= 0) <;> cases decide (e.num <= 0) <;> cases (e.txt == []) <;> rfl
theorem qAO (s:Bs):qpx s = some (qkY s):=by
 rw [qEB,qsI,qAK,qkY]
 simp only [ev_bi_some,br_eq,cond_some,List.length_map]
 cases h0:((qeJ s).2.2 == 0)
 ·simp
 ·cases hl:(qeJ s).1 with
  | nil=>simp
  | cons t l=>
   cases l with
   | nil=>
    have e1:qaQ ksT (ET [t]) 0 = true:=okT (l:=[t]) (n:=0) (by simp)
    have e2:intOf (cellAt (ET [t]) 0 0) = t.kind:=qt0 (l:=[t]) (n:=0) (by simp)
    have e3:strOf (cellAt (ET [t]) 0 2) = t.text:=qt2 (l:=[t]) (n:=0) (by simp)
    simp only [cond_true,e1,e2,e3,List.length_cons,List.length_nil,List.head?_cons]
    cases hk:(t.kind == 1) <;> simp
   | cons u l=>
    have:(((t :: u :: l).length:Int) == 1) = false:=by simp; omega
    simp only [this,cond_true,cond_false,ev_bi_some,ev_at]
    simp
theorem qwA (e:Ex):qmy e.op e.num e.txt (EX e.args) = some (qbl e):=by
 rw [qAg,qlv,qAO,qbl]
 cases (e.op != 4) <;> simp
theorem qD1:∀ (e:Ex),e.nodes <= big -> ∀ n,4 * e.dep <= n -> (qam n).1 e.op e.num e.txt (EX e.args) = some (e.allX qaK):=by
 intro e
 induction e using Ex.ind with
 | h o n s l ih=>
  intro h m hm
  have hll:=Ex.nodesL_len l
  have hal:=Ex.allX_eq qaK (.mk o n s l)
  simp only [Ex.nodes,Ex.dep] at h hm
  obtain ⟨k,rfl⟩:∃ k,m = k + 4:=⟨m - 4,by omega⟩
  have hloop:qFC ((qam (k + 1)).1) ((qam (k + 1)).2.1) ((qam (k + 1)).2.2.1) ((qam (k + 1)).2.2.2) (EX l,((EX l).length:Int),0) = some (qhf (fun x=>!Ex.allX qaK x) (fun _=>0) 1 l,EX l,((EX l).length:Int),((l.findIdx (fun x=>!Ex.allX qaK x):Nat):Int)):=by
   rw [qyE]
   refine qa8 (hd:=fun n=>(EX l,((EX l).length:Int),(n:Int))) (jx:=fun _=>0) _ 1 (fun n hn=>?_) ?_
   ·have hx:l[n] ∈ l:=List.getElem_mem hn
    have h1:=Ex.nodesL_mem hx
    have h2:=Ex.depL_mem hx
    have hg:=ih l[n] hx (by omega) k (by omega)
    have hg1:(qam (k + 1)).2.2.2 l[n].op l[n].num l[n].txt (EX l[n].args) = some (!l[n].allX qaK):=by
     simp only [qam,qxE,hg,ev_bi_some,ev_at]
    simp only [qvf,qrR,List.length_map,qbn hn,okX hn,qx0 hn,qx1 hn,qx2 hn,qx3 hn,hg1,ev_br,ev_at,ev_bi_some,cond_true,qat hn (show l.length <= big by omega)]
    cases l[n].allX qaK <;> rfl
   ·simp [qvf,qrR]
  have hidx:(qam (k + 2)).2.2.1 (EX l) = some (if l.any (fun x=>!Ex.allX qaK x) then ((l.findIdx (fun x=>!Ex.allX qaK x):Nat):Int) else -1):=by
   rw [qam]
   simp only [qI4,hloop,qbG]
   cases l.any (fun x=>!Ex.allX qaK x) <;> simp
  have hcon:(qam (k + 3)).2.1 (EX l) = some (l.any (fun x=>!Ex.allX qaK x)):=by
   rw [qam]
   simp only [qI2,hidx,ev_bi_some,ev_at]
   cases l.any (fun x=>!Ex.allX qaK x) <;> simp
  rw [qam]
  have hf:=qws (.mk o n s l)
  simp only [Ex.op,Ex.num,Ex.txt,Ex.args] at hf ⊢
  simp only [qr3,hf,hcon,ev_bi_some,sm_some,gv_some,br_eq,cond_true]
  rw [hal,Ex.args]
  have hna:(!l.any (fun x=>!Ex.allX qaK x)) = l.all (Ex.allX qaK):=by
   rw [List.not_any_eq_all_not]; simp
  cases qaK (.mk o n s l) <;> simp [hna]
theorem qwz {e:Ex} (h:e.nodes <= big):qq2 e.op e.num e.txt (EX e.args) = some (e.allX qaK):=
 qb3 (qD1 e h)
theorem qz1:∀ (e:Ex),e.nodes <= big -> ∀ n,4 * e.dep <= n -> (qal n).1 e.op e.num e.txt (EX e.args) = some (e.allX qbl):=by
 intro e
 induction e using Ex.ind with
 | h o n s l ih=>
  intro h m hm
  have hll:=Ex.nodesL_len l
  have hal:=Ex.allX_eq qbl (.mk o n s l)
  simp only [Ex.nodes,Ex.dep] at h hm
  obtain ⟨k,rfl⟩:∃ k,m = k + 4:=⟨m - 4,by omega⟩
  have hloop:qFB ((qal (k + 1)).1) ((qal (k + 1)).2.1) ((qal (k + 1)).2.2.1) ((qal (k + 1)).2.2.2) (EX l,((EX l).length:Int),0) = some (qhf (fun x=>!Ex.allX qbl x) (fun _=>0) 1 l,EX l,((EX l).length:Int),((l.findIdx (fun x=>!Ex.allX qbl x):Nat):Int)):=by
   rw [qyC]
   refine qa8 (hd:=fun n=>(EX l,((EX l).length:Int),(n:Int))) (jx:=fun _=>0) _ 1 (fun n hn=>?_) ?_
   ·have hx:l[n] ∈ l:=List.getElem_mem hn
    have h1:=Ex.nodesL_mem hx
    have h2:=Ex.depL_mem hx
    have hg:=ih l[n] hx (by omega) k (by omega)
    have hg1:(qal (k + 1)).2.2.2 l[n].op l[n].num l[n].txt (EX l[n].args) = some (!l[n].allX qbl):=by
     simp only [qal,qxD,hg,ev_bi_some,ev_at]
    simp only [qve,qrQ,List.length_map,qbn hn,okX hn,qx0 hn,qx1 hn,qx2 hn,qx3 hn,hg1,ev_br,ev_at,ev_bi_some,cond_true,qat hn (show l.length <= big by omega)]
    cases l[n].allX qbl <;> rfl
   ·simp [qve,qrQ]
  have hidx:(qal (k + 2)).2.2.1 (EX l) = some (if l.any (fun x=>!Ex.allX qbl x) then ((l.findIdx (fun x=>!Ex.allX qbl x):Nat):Int) else -1):=by
   rw [qal]
   simp only [qI3,hloop,qbG]
   cases l.any (fun x=>!Ex.allX qbl x) <;> simp
  have hcon:(qal (k + 3)).2.1 (EX l) = some (l.any (fun x=>!Ex.allX qbl x)):=by
   rw [qal]
   simp only [qI1,hidx,ev_bi_some,ev_at]
   cases l.any (fun x=>!Ex.allX qbl x) <;> simp
  rw [qal]
  have hf:=qwA (.mk o n s l)
  simp only [Ex.op,Ex.num,Ex.txt,Ex.args] at hf ⊢
  simp only [qrZ,hf,hcon,ev_bi_some,sm_some,gv_some,br_eq,cond_true]
  rw [hal,Ex.args]
  have hna:(!l.any (fun x=>!Ex.allX qbl x)) = l.all (Ex.allX qbl):=by
   rw [List.not_any_eq_all_not]; simp
  cases qbl (.mk o n s l) <;> simp [hna]
theorem qwr {e:Ex} (h:e.nodes <= big):qq1 e.op e.num e.txt (EX e.args) = some (e.allX qbl):=
 qb3 (qz1 e h)
theorem qec {e:Ex} (h:e.nodes <= big):qeT e.op e.num e.txt (EX e.args) = some (qaX e):=by
 rw [qEz,qsG,qig h,qwy h,qwz h,qwr h,qaX]
 have e1:decide ((e.nodes:Int) > 64) = decide (e.nodes > 64):=by
  by_cases h:e.nodes > 64 <;> simp [h] <;> omega
 have e2:decide (gv (some (e.dep:Int)) > 8) = decide (e.dep > 8):=by
  show decide ((e.dep:Int) > 8) = _
  by_cases h:e.dep > 8 <;> simp [h] <;> omega
 simp only [ev_bi_some,br_eq,sm_some,e1,e2]
 cases decide (e.nodes > 64) <;> cases decide (e.dep > 8) <;> cases e.allX qaK <;> cases e.allX qbl <;> rfl
end Go.Proofs.H10
