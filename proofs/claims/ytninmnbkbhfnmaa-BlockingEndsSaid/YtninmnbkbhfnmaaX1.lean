/- Orders, as data; names and fields. -/
import Derived.Test.YtninmnbkbhfnmaaD23_5
import Derived.Test.YtninmnbkbhfnmaaE3
set_option linter.unusedVariables false
set_option linter.unusedSimpArgs false
set_option linter.unnecessarySimpa false
namespace Go.Proofs.H23
open Go Go.Eng
set_option maxRecDepth 20000

structure H where
  (id acc kind amt frm to : Int)
  (src : List UInt8)
deriving DecidableEq

def H.av (h : H) : AV := .agg [.int .i64 h.id, .int .i64 h.acc, .int .i64 h.kind, .int .i64 h.amt, .int .i64 h.frm, .int .i64 h.to, .str h.src]
abbrev ks : List CS := [CS.int IntKind.i64, CS.int IntKind.i64, CS.int IntKind.i64, CS.int IntKind.i64, CS.int IntKind.i64, CS.int IntKind.i64, CS.str]
theorem hk (h : H) : okCs ks (cellsA h.av) = true := rfl
abbrev E (l : List H) : List AV := l.map H.av

theorem ok_at {l : List H} {n : Nat} (h : n < l.length) : okAt ks (E l) (n : Int) = true := okAt_at hk h
theorem q0 {l : List H} {n : Nat} (h : n < l.length) : intOf (cellAt (E l) (n : Int) 0) = l[n].id := by rw [cellAt_map h]; rfl
theorem q1 {l : List H} {n : Nat} (h : n < l.length) : intOf (cellAt (E l) (n : Int) 1) = l[n].acc := by rw [cellAt_map h]; rfl
theorem q2 {l : List H} {n : Nat} (h : n < l.length) : intOf (cellAt (E l) (n : Int) 2) = l[n].kind := by rw [cellAt_map h]; rfl
theorem q3 {l : List H} {n : Nat} (h : n < l.length) : intOf (cellAt (E l) (n : Int) 3) = l[n].amt := by rw [cellAt_map h]; rfl
theorem q4 {l : List H} {n : Nat} (h : n < l.length) : intOf (cellAt (E l) (n : Int) 4) = l[n].frm := by rw [cellAt_map h]; rfl
theorem q5 {l : List H} {n : Nat} (h : n < l.length) : intOf (cellAt (E l) (n : Int) 5) = l[n].to := by rw [cellAt_map h]; rfl
theorem q6 {l : List H} {n : Nat} (h : n < l.length) : strOf (cellAt (E l) (n : Int) 6) = l[n].src := by rw [cellAt_map h]; rfl

/-- Long sources. -/
def long (h : H) : Bool := decide ((h.src.length : Int) > 100)
theorem l9_val {l : List H} (hl : l.length ≤ big) : l9_0 (E l, 0) = some (seek long (fun _ => 0) 1 l, E l, ((l.findIdx long : Nat) : Int)) := by
  rw [l9_0_eq]
  refine loop_search (hd := fun n => (E l, (n : Int))) (jx := fun _ => 0) long 1 (fun n h => ?_) ?_
  · simp only [st9_0, st9_0_0, List.length_map, lt_at h, ok_at h, q6 h, ev_br, ev_at, cond_true, wrap_succ h hl]
    rw [show decide ((l[n].src.length : Int) > 100) = long l[n] from rfl]
    cases long l[n] <;> rfl
  · simp [st9_0, st9_0_0]
theorem f9_val {l : List H} (hl : l.length ≤ big) : f9 (E l) = some (!l.any long) := by
  rw [f9_eq, tr9, l9_val hl]
  unfold seek
  cases hf : l.find? long with
  | none => simp at hf; simp; exact hf
  | some x => simp; exact ⟨x, List.mem_of_find?_eq_some hf, List.find?_some hf⟩

def dayB (x : Int) : Bool := decide (x ≥ 0) && decide (x ≤ 73048)
theorem f32_val (x : Int) : f32 x = some (dayB x) := by
  rw [f32_eq, tr32]
  by_cases h : x ≥ 0 <;> simp [dayB, h]
theorem f24_val (x : Int) : f24 x = some (dayB x) := by
  rw [f24_eq, tr24]
  by_cases h : x ≥ 0 <;> simp [dayB, h]
def goodB (h : H) : Bool := !(decide (h.id < 1) || decide (h.acc < 1000) || decide (h.kind < 1) || decide (h.kind > 4) || !dayB h.frm || !dayB h.to || decide (h.frm > h.to)) && (bif h.kind != 4 then h.amt == 0 else decide (h.amt ≥ 1) && decide (h.amt ≤ 1000000000000))
theorem f25_val (h : H) : f25 h.id h.acc h.kind h.amt h.frm h.to h.src = some (goodB h) := by
  rw [f25_eq, tr25]
  simp only [f32_val, sm_some, gv_some, br_eq, goodB]
  cases decide (h.id < 1) <;> cases decide (h.acc < 1000) <;> cases decide (h.kind < 1) <;> cases decide (h.kind > 4) <;> cases dayB h.frm <;> cases dayB h.to <;> cases decide (h.frm > h.to) <;> cases (h.kind != 4) <;> cases decide (h.amt ≥ 1) <;> rfl
theorem gt_le (a b : Int) : decide (a > b) = !decide (a ≤ b) := by by_cases h : a ≤ b <;> simp [h] <;> omega
theorem lt_ge (a b : Int) : decide (a < b) = !decide (a ≥ b) := by by_cases h : a ≥ b <;> simp [h] <;> omega
theorem f27_val (h : H) : f27 h.id h.acc h.kind h.amt h.frm h.to h.src = some (goodB h) := by
  rw [f27_eq, tr27]
  have e1 : (h.kind == 4) = !(h.kind != 4) := by simp [bne]
  have e2 : (h.amt != 0) = !(h.amt == 0) := rfl
  simp only [f24_val, sm_some, gv_some, br_eq, goodB, e1, e2, gt_le h.frm, lt_ge h.amt, gt_le h.amt]
  cases decide (h.id < 1) <;> cases decide (h.acc < 1000) <;> cases decide (h.kind < 1) <;> cases decide (h.kind > 4) <;> cases dayB h.frm <;> cases dayB h.to <;> cases decide (h.frm ≤ h.to) <;> cases (h.kind != 4) <;> cases decide (h.amt ≥ 1) <;> cases decide (h.amt ≤ 1000000000000) <;> cases (h.amt == 0) <;> rfl

end Go.Proofs.H23
