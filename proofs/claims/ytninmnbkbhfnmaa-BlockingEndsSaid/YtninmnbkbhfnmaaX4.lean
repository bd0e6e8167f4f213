/- Active orders, what they deny and reserve. -/
import Derived.Test.YtninmnbkbhfnmaaX3
set_option linter.unusedVariables false
set_option linter.unusedSimpArgs false
set_option linter.unnecessarySimpa false
namespace Go.Proofs.H23
open Go Go.Eng
set_option maxRecDepth 20000

def actB (acc day : Int) (h : H) : Bool := h.acc == acc && decide (h.frm ≤ day) && decide (day ≤ h.to)
theorem av_eq (h : H) : AV.agg [AV.int IntKind.i64 h.id, AV.int IntKind.i64 h.acc, AV.int IntKind.i64 h.kind, AV.int IntKind.i64 h.amt, AV.int IntKind.i64 h.frm, AV.int IntKind.i64 h.to, AV.str h.src] = h.av := rfl
theorem map_one (l : List H) (h : H) : l.map H.av ++ [h.av] = (l ++ [h]).map H.av := by simp
def hdP (l : List H) (acc day : Int) (n : Nat) (o : List H) : TT18_0 := match o with
  | [] => .inl (acc, day, E l, (l.length : Int), (n : Int))
  | o => .inr (acc, day, E l, (l.length : Int), (n : Int), E o)
def hdR (l : List H) (acc day : Int) (n : Nat) (o : List H) : TT19_0 := match o with
  | [] => .inl (E l, acc, day, (n : Int))
  | o => .inr (E l, acc, day, (n : Int), E o)
def outJ (o : List H) : Nat := match o with
  | [] => 0
  | _ => 1
def addA (acc day : Int) (o : List H) (h : H) : List H := bif actB acc day h then o ++ [h] else o
theorem addA_filter (acc day : Int) : ∀ (l o : List H), l.foldl (addA acc day) o = o ++ l.filter (actB acc day)
  | [], o => by simp
  | h :: l, o => by
    rw [List.foldl_cons, addA_filter acc day l, addA]
    cases hh : actB acc day h <;> simp [hh]
/-- Few enough to be kept. -/
def few (l : List H) : Prop := (l.length + 1) * 64 ≤ lim
theorem few_big {l : List H} (h : few l) : l.length ≤ big := by simp only [few, lim] at h; simp only [big]; omega

theorem l18_val {l : List H} (hl : few l) (acc day : Int) : l18_0 (.inl (acc, day, E l, (l.length : Int), 0)) = some (outJ (l.filter (actB acc day)), hdP l acc day l.length (l.filter (actB acc day))) := by
  rw [l18_0_eq]
  have hb := few_big hl
  have key := loop_fold (st := fun v => (st18_0 v).ev) (l := l) (hdP l acc day) (addA acc day) outJ (fun n o => o.length ≤ n) (a := []) (by simp) ?_ ?_ ?_
  · rw [addA_filter] at key; exact key
  · intro n a h ha
    unfold addA
    cases actB acc day l[n] <;> simp <;> omega
  · intro n a h ha
    have hr : room (a.length + 1) 64 = true := room_of (by simp only [few, lim] at hl ⊢; omega)
    cases a with
    | nil =>
      simp only [hdP, st18_0, Sum.elim_inl, st18_0_0, lt_at h, ok_at h, q0 h, q1 h, q2 h, q3 h, q4 h, q5 h, q6 h, ev_br, ev_at, cond_true, br_eq, cond_some, ev_bi_some, wrap_succ h hb, addA, av_eq]
      rw [show (bif bif l[n].acc == acc then decide (l[n].frm ≤ day) else false then decide (day ≤ l[n].to) else false) = actB acc day l[n] by unfold actB; cases (l[n].acc == acc) <;> cases decide (l[n].frm ≤ day) <;> rfl]
      cases actB acc day l[n] <;> rfl
    | cons x a =>
      simp only [hdP, st18_0, Sum.elim_inr, st18_0_1, lt_at h, ok_at h, q0 h, q1 h, q2 h, q3 h, q4 h, q5 h, q6 h, ev_br, ev_at, cond_true, br_eq, cond_some, ev_bi_some, wrap_succ h hb, addA, av_eq, List.length_map, hr, map_one]
      rw [show (bif bif l[n].acc == acc then decide (l[n].frm ≤ day) else false then decide (day ≤ l[n].to) else false) = actB acc day l[n] by unfold actB; cases (l[n].acc == acc) <;> cases decide (l[n].frm ≤ day) <;> rfl]
      cases actB acc day l[n] <;> rfl
  · intro a ha
    cases a <;> simp [hdP, st18_0, st18_0_0, st18_0_1, outJ]
theorem f18_val {l : List H} (hl : few l) (acc day : Int) : f18 (E l) acc day = some (E (l.filter (actB acc day))) := by
  rw [f18_eq, tr18, List.length_map, l18_val hl]
  cases l.filter (actB acc day) <;> rfl
theorem l19_val {l : List H} (hl : few l) (acc day : Int) : l19_0 (.inl (E l, acc, day, 0)) = some (outJ (l.filter (actB acc day)), hdR l acc day l.length (l.filter (actB acc day))) := by
  rw [l19_0_eq]
  have hb := few_big hl
  have key := loop_fold (st := fun v => (st19_0 v).ev) (l := l) (hdR l acc day) (addA acc day) outJ (fun n o => o.length ≤ n) (a := []) (by simp) ?_ ?_ ?_
  · rw [addA_filter] at key; exact key
  · intro n a h ha
    unfold addA
    cases actB acc day l[n] <;> simp <;> omega
  · intro n a h ha
    have hr : room (a.length + 1) 64 = true := room_of (by simp only [few, lim] at hl ⊢; omega)
    cases a with
    | nil =>
      simp only [hdR, st19_0, Sum.elim_inl, st19_0_0, List.length_map, lt_at h, ok_at h, q0 h, q1 h, q2 h, q3 h, q4 h, q5 h, q6 h, ev_br, ev_at, cond_true, br_eq, cond_some, ev_bi_some, wrap_succ h hb, addA, av_eq]
      rw [show (bif bif l[n].acc == acc then decide (l[n].frm ≤ day) else false then decide (day ≤ l[n].to) else false) = actB acc day l[n] by unfold actB; cases (l[n].acc == acc) <;> cases decide (l[n].frm ≤ day) <;> rfl]
      cases actB acc day l[n] <;> rfl
    | cons x a =>
      simp only [hdR, st19_0, Sum.elim_inr, st19_0_1, List.length_map, lt_at h, ok_at h, q0 h, q1 h, q2 h, q3 h, q4 h, q5 h, q6 h, ev_br, ev_at, cond_true, br_eq, cond_some, ev_bi_some, wrap_succ h hb, addA, av_eq, hr, map_one]
      rw [show (bif bif l[n].acc == acc then decide (l[n].frm ≤ day) else false then decide (day ≤ l[n].to) else false) = actB acc day l[n] by unfold actB; cases (l[n].acc == acc) <;> cases decide (l[n].frm ≤ day) <;> rfl]
      cases actB acc day l[n] <;> rfl
  · intro a ha
    cases a <;> simp [hdR, st19_0, st19_0_0, st19_0_1, outJ]
theorem f19_val {l : List H} (hl : few l) (acc day : Int) : f19 (E l) acc day = some (E (l.filter (actB acc day))) := by
  rw [f19_eq, tr19, l19_val hl]
  cases l.filter (actB acc day) <;> rfl

/-- Does an order deny a leg? -/
def denB (amt : Int) (h : H) : Bool := bif h.kind == 1 then true else bif h.kind == 2 then decide (amt > 0) else bif h.kind == 3 then decide (amt < 0) else false
theorem f36_val (h : H) (amt : Int) : f36 h.id h.acc h.kind h.amt h.frm h.to h.src amt = some (denB amt h) := by
  rw [f36_eq, tr36, f37_eq, tr37, denB]
  cases (h.kind == 1) <;> cases (h.kind == 2) <;> cases (h.kind == 3) <;> cases (h.kind == 4) <;> rfl
theorem f35_val (h : H) (amt : Int) : f35 h.id h.acc h.kind h.amt h.frm h.to h.src amt = some (denB amt h) := by
  rw [f35_eq, tr35, f36_val]; rfl
theorem l30a_val {l : List H} (hl : l.length ≤ big) (amt : Int) : l30a_0 (E l, amt, (l.length : Int), 0) = some (seek (denB amt) (fun _ => 0) 1 l, E l, amt, (l.length : Int), ((l.findIdx (denB amt) : Nat) : Int)) := by
  rw [l30a_0_eq]
  refine loop_search (hd := fun n => (E l, amt, (l.length : Int), (n : Int))) (jx := fun _ => 0) (denB amt) 1 (fun n h => ?_) ?_
  · simp only [st30a_0, st30a_0_0, lt_at h, ok_at h, q0 h, q1 h, q2 h, q3 h, q4 h, q5 h, q6 h, ev_br, ev_at, cond_true, f35_val, ev_bi_some, wrap_succ h hl]
    cases denB amt l[n] <;> rfl
  · simp [st30a_0, st30a_0_0]
theorem f34_val {l : List H} (hl : l.length ≤ big) (amt : Int) : f34 (E l) amt = some (l.any (denB amt)) := by
  rw [f34_eq, tr34, f30a_eq, tr30a, List.length_map, l30a_val hl, seek_const]
  cases l.any (denB amt)
  · rfl
  · simp
theorem f20_val {l : List H} (hl : few l) (acc day amt : Int) : f20 (E l) acc day amt = some ((l.filter (actB acc day)).any (denB amt)) := by
  rw [f20_eq, tr20, f18_val hl]
  have : f34 (E (l.filter (actB acc day))) amt = _ := f34_val (Nat.le_trans (List.length_filter_le ..) (few_big hl)) amt
  simp only [ev_bi_some, this, ev_at]
theorem l21_val {l : List H} (hl : l.length ≤ big) (amt : Int) : l21_0 (amt, E l, 0) = some (seek (denB amt) (fun _ => 0) 1 l, amt, E l, ((l.findIdx (denB amt) : Nat) : Int)) := by
  rw [l21_0_eq]
  refine loop_search (hd := fun n => (amt, E l, (n : Int))) (jx := fun _ => 0) (denB amt) 1 (fun n h => ?_) ?_
  · simp only [st21_0, st21_0_0, List.length_map, lt_at h, ok_at h, q0 h, q1 h, q2 h, q3 h, q4 h, q5 h, q6 h, ev_br, ev_at, cond_true, br_eq, cond_some, ev_bi_some, wrap_succ h hl, denB]
    by_cases h1 : l[n].kind = 1
    · simp [h1]
    · by_cases h2 : l[n].kind = 2
      · simp [h2]
      · by_cases h3 : l[n].kind = 3
        · simp [h3]
        · simp only [beq_eq_false_iff_ne.2 h1, beq_eq_false_iff_ne.2 h2, beq_eq_false_iff_ne.2 h3]; rfl
  · simp [st21_0, st21_0_0]
theorem f21_val {l : List H} (hl : few l) (acc day amt : Int) : f21 (E l) acc day amt = some ((l.filter (actB acc day)).any (denB amt)) := by
  rw [f21_eq, tr21, f19_val hl]
  simp only [ev_bi_some, l21_val (l := l.filter (actB acc day)) (Nat.le_trans (List.length_filter_le ..) (few_big hl)) amt, seek_const]
  cases (l.filter (actB acc day)).any (denB amt) <;> rfl

/-- What is reserved. -/
def resA (s : Int) (h : H) : Int := bif h.kind == 4 then IntKind.i64.wrap (s + h.amt) else s
theorem l22_val {l : List H} (hl : l.length ≤ big) (s : Int) : l22_0 (s, E l, (l.length : Int), 0) = some (0, l.foldl resA s, E l, (l.length : Int), (l.length : Int)) := by
  rw [l22_0_eq]
  refine loop_fold (st := fun v => (st22_0 v).ev) (l := l) (fun n s => (s, E l, (l.length : Int), (n : Int))) resA (fun _ => 0) (fun _ _ => True) trivial (fun _ _ _ _ => trivial) (fun n a h _ => ?_) (fun a _ => ?_)
  · simp only [st22_0, st22_0_0, lt_at h, ok_at h, q0 h, q1 h, q2 h, q3 h, q4 h, q5 h, q6 h, ev_br, ev_at, cond_true, wrap_succ h hl, f37_eq, tr37, resA]
    by_cases h1 : l[n].kind = 1
    · simp [h1]
    · by_cases h2 : l[n].kind = 2
      · simp [h2]
      · by_cases h3 : l[n].kind = 3
        · simp [h3]
        · by_cases h4 : l[n].kind = 4
          · simp [h4]
          · simp only [beq_eq_false_iff_ne.2 h1, beq_eq_false_iff_ne.2 h2, beq_eq_false_iff_ne.2 h3, beq_eq_false_iff_ne.2 h4]; rfl
  · simp [st22_0, st22_0_0]
theorem l23_val {l : List H} (hl : l.length ≤ big) (s : Int) : l23_0 (E l, s, 0) = some (0, E l, l.foldl resA s, (l.length : Int)) := by
  rw [l23_0_eq]
  refine loop_fold (st := fun v => (st23_0 v).ev) (l := l) (fun n s => (E l, s, (n : Int))) resA (fun _ => 0) (fun _ _ => True) trivial (fun _ _ _ _ => trivial) (fun n a h _ => ?_) (fun a _ => ?_)
  · simp only [st23_0, st23_0_0, List.length_map, lt_at h, ok_at h, q0 h, q1 h, q2 h, q3 h, q4 h, q5 h, q6 h, ev_br, ev_at, cond_true, wrap_succ h hl, resA]
    cases (l[n].kind == 4) <;> rfl
  · simp [st23_0, st23_0_0]
theorem f22_val {l : List H} (hl : few l) (acc day : Int) : f22 (E l) acc day = some ((l.filter (actB acc day)).foldl resA 0) := by
  rw [f22_eq, tr22, f18_val hl]
  simp only [ev_bi_some, List.length_map, l22_val (l := l.filter (actB acc day)) (Nat.le_trans (List.length_filter_le ..) (few_big hl)), pj_some, if_true, ev_at]
theorem f23_val {l : List H} (hl : few l) (acc day : Int) : f23 (E l) acc day = some ((l.filter (actB acc day)).foldl resA 0) := by
  rw [f23_eq, tr23, f19_val hl]
  simp only [ev_bi_some, l23_val (l := l.filter (actB acc day)) (Nat.le_trans (List.length_filter_le ..) (few_big hl)), pj_some, if_true, ev_at]

theorem f6_val (l : List H) (acc day amt : Int) : f6 (E l) acc day amt = some true := by
  rw [f6_eq, tr6, f12_val]
  simp only [ev_br, ev_bi_some, ev_at, List.length_map]
  by_cases hq : (l.length : Int) > 100
  · simp [hq]
  · have hl : few l := by simp only [few, lim]; omega
    rw [decide_eq_false hq]
    simp only [cond_false, f18_val hl, f19_val hl, ev_bi_some, f15_val (l := l.filter (actB acc day)) (Nat.le_trans (List.length_filter_le ..) (few_big hl)), f20_val hl, f21_val hl, f22_val hl, f23_val hl, ev_br, ev_at, beq_self_eq_true, decide_true, cond_true]
    simp

end Go.Proofs.H23
