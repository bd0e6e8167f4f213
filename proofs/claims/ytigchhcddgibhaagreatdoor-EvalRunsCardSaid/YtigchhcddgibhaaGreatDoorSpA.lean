/- What is said of a function at a few arguments alone: the machine's own runs. -/
import Derived.Test.YtigchhcddgibhaaGreatDoorE3
import Derived.KernelRfl
set_option linter.unusedVariables false
set_option linter.unusedSimpArgs false
set_option linter.unnecessarySimpa false
namespace Go.Eng
open Classical in
noncomputable def q2K {α β : Type} (L : List (α × β)) (v : α) : Option β := (L.find? fun x => decide (x.1 = v)).map (·.2)
theorem qYm {α β : Type} {L : List (α × β)} {v : α} {y : β} (h : q2K L v = some y) : (v, y) ∈ L := by
 unfold q2K at h
 cases hf : L.find? fun x => @decide (x.1 = v) (Classical.propDecidable _) with
 | none => rw [hf] at h; cases h
 | some x =>
  rw [hf] at h
  cases h
  have h1 := List.find?_some hf
  have h2 := List.mem_of_find?_eq_some hf
  have h3 : x.1 = v := by simpa using h1
  rw [<- h3]; exact h2
theorem q2L {α β : Type} {L : List (α × β)} {v : α} {y : β} : q2K ((v, y) :: L) v = some y := by
 unfold q2K; simp
theorem qYn {IP : Prog} {f : Nat} {p : PArgs} {rs : List PRes} {a : Tup (qhA p)} {y : RT rs} (n : Nat) (h : (qaP IP n).1 f (aE p a) (aH p a) = some (rE rs y)) : FH IP f p rs (q2K [(a, y)]) := fun v z hv => by
 have hm := qYm hv
 rw [List.mem_singleton] at hm
 cases hm
 exact qgR.2 ⟨n, h⟩
theorem fh {IP : Prog} {T : Tab} {f : Nat} {p : PArgs} {rs : List PRes} {G : Tup (qhA p) -> Option (RT rs)} (F : Fun) (t : Tup (qhA p) -> DT (RT rs)) (hT : qai IP T) (hl : loops F.body = [] := by kernel_rfl) (hF : IP.fn f = some F := by kernel_rfl)
  (hb : ∀ v, qZO (R := RT rs) IP (qVS T) (qMY []) f F (aE p v) (aH p v) (rD rs) = (t v).ev := by intro v; kernel_rfl) (hG : ∀ v, G v = (t v).ev := by intro v; exact qaa _) : FH IP f p rs G :=
 qae hT (qab (l := []) hl trivial) hF hb hG
theorem lp {IP : Prog} {T : Tab} {keep : List Nat} {c : ICode} {hs : List PSt} (I : Inhabited (qPm (hs.map qMS))) {ex : List (qPm (hs.map qMS) -> X × St)} (st : qPm (hs.map qMS) -> DT (Rd (qPm (hs.map qMS)))) {lo : qPm (hs.map qMS) -> Option (Nat × qPm (hs.map qMS))} (hT : qai IP T)
  (hlo : ∀ v, lo v = qaq (fun v => (st v).ev) v) (h : loops c = [] := by kernel_rfl) (hn : ∀ v, norm (hk keep) (hE hs v) = some (hE hs v) := by intro v; kernel_rfl)
  (hst : ∀ v, qvv IP (qVS T) (qMY []) c (hE hs v) (q6u keep (hD hs)) = (cvX ex v (st v)).ev := by intro v; kernel_rfl) : Told IP keep c (LE (hD hs) lo ex) :=
 qat I hT (qab (l := []) h trivial) hlo hn hst
end Go.Eng
