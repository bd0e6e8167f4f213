/- A machine of plain values, and that what it says holds of the program. -/
import Derived.Test.YtigchhcddgibhaaGreatDoorE2
set_option linter.unusedVariables false
set_option linter.unusedSimpArgs false
set_option linter.unnecessarySimpa false
namespace Go.Eng
section
variable {IP : Prog}
def LeC (c c' : qdr) : Prop := ∀ f a h r, c f a h = some r -> c' f a h = some r
def LeL (l l' : qs4) : Prop := ∀ k c s r, l k c s = some r -> l' k c s = some r
theorem qxr {c c' : qdr} (hc : LeC c c') {h : qaA} {nx f : Nat} {args : List AV} {r : Res × qaA × Bool} (hs : qrm IP c h nx f args = some r) : qrm IP c' h nx f args = some r := by
 simp only [qrm] at hs ⊢
 split at hs
 ·cases hs
 ·rename_i args' roots hp
  split at hs
  ·rename_i moved shwn h1 h2
   split at hs
   ·rename_i hd
    split at hs
    ·cases hs
    ·rename_i r0 h0 hcl
     simp only [h1, h2, hd, if_true, hc _ _ _ _ hcl]
     exact hs
   ·cases hs
  ·cases hs
theorem qNc {c c' : qdr} (hc : LeC c c') {nx : Nat} {ev : Opd -> AV} {h : qaA} {io : IOp} {r : Res × qaA × Bool} (hs : opS IP c nx ev h io = some r) : opS IP c' nx ev h io = some r := by
 cases io <;> try exact hs
 case call f xs => exact qxr hc hs
 case callv x xs =>
  simp only [opS] at hs ⊢
  split at hs
  ·exact qxr hc hs
  ·cases hs
 case invk tbl x xs =>
  simp only [opS] at hs ⊢
  split at hs
  ·split at hs
   ·exact qxr hc hs
   ·cases hs
  ·cases hs
theorem qLY {c c' : qdr} (hc : LeC c c') {nx : Nat} {o : IOper} {e : Env} {h : qaA} {s : Step} (hs : qhx IP c nx o e h = some s) : qhx IP c' nx o e h = some s := by
 simp only [qhx] at hs ⊢
 split at hs
 ·cases hs
 ·exact hs
 ·split at hs
  ·cases hs
  ·rename_i r hr
   split at hs
   ·cases hs
   ·rename_i v out w ho
    simp only [qNc hc ho]
    exact hs
   ·rename_i v out w ho
    simp only [qNc hc ho]
    exact hs
theorem qu8 {c c' : qdr} (hc : LeC c c') : ∀ {ops : List IOper} {e : Env} {h : qaA} {nx : Nat} {log : List Step} {r : X × Env × qaA × List Step}, qg3 IP c ops e h nx log = some r -> qg3 IP c' ops e h nx log = some r
 | [], e, h, nx, log, r, hs => hs
 | o :: ops, e, h, nx, log, r, hs => by
  simp only [qg3] at hs ⊢
  cases hq : qhx IP c nx o e h with
  | none => simp [hq] at hs
  | some s =>
   rw [qLY hc hq]
   rw [hq] at hs
   cases s with
   | pan a b d => exact hs
   | skip => exact qu8 hc hs
   | did a b d f => exact qu8 hc hs
theorem qJj {c c' : qdr} (hc : LeC c c') {base : Nat} : ∀ {ops : List IOper} {i : Nat} {e : Env} {h : qaA} {log : List Step} {r : Env × qaA × List Step}, qm9 IP c base i ops e h log = some r -> qm9 IP c' base i ops e h log = some r
 | [], i, e, h, log, r, hs => hs
 | o :: ops, i, e, h, log, r, hs => by
  simp only [qm9] at hs ⊢
  cases hq : qhx IP c (base + 16 * i) o e h with
  | none => simp [hq] at hs
  | some s =>
   rw [qLY hc hq]
   rw [hq] at hs
   simp only at hs ⊢
   split at hs
   ·rename_i ht
    rw [if_pos ht]
    exact qJj hc hs
   ·cases hs
theorem qLf {c c' : qdr} (hc : LeC c c') {ops : List IOper} {d : Option (List (List Nat))} {s : St} {r : X × St} (hs : qdH IP c ops d s = some r) : qdH IP c' ops d s = some r := by
 simp only [qdH] at hs ⊢
 split at hs
 ·split at hs
  ·cases hs
  ·rename_i q; rw [qu8 hc q]; exact hs
 ·split at hs
  ·cases hs
  ·rename_i q; simp only [qJj hc q]; exact hs
theorem qDN {c c' : qdr} (hc : LeC c c') {l l' : qs4} (hl : LeL l l') : ∀ {ic : ICode} {s : St} {r : X × St}, qkk IP c l ic s = some r -> qkk IP c' l' ic s = some r := by
 intro ic
 induction ic with
 | skip => intro s r h; exact h
 | region ops d => intro s r h; exact qLf hc h
 | seq a b iha ihb =>
  intro s r h
  simp only [qkk] at h ⊢
  split at h
  ·rename_i s1 h1
   rw [iha h1]
   exact ihb h
  ·rename_i hne
   rw [iha h]
   split
   ·rename_i s1 he
    cases he
    exact absurd h (hne s1)
   ·rfl
 | cond x a b iha ihb =>
  intro s r h
  simp only [qkk] at h ⊢
  split at h
  ·exact iha h
  ·exact ihb h
  ·cases h
 | block id a ih =>
  intro s r h
  simp only [qkk] at h ⊢
  split at h
  ·rename_i j s1 h1
   rw [ih h1]; exact h
  ·rename_i hne
   rw [ih h]
   split
   ·rename_i j s1 he
    cases he
    exact absurd h (hne j s1)
   ·rfl
 | loop k a ih => intro s r h; exact hl _ _ _ _ h
 | exit id => intro s r h; exact h
 | ret => intro s r h; exact h
theorem qZP {c c' : qdr} (hc : LeC c c') {l l' : qs4} (hl : LeL l l') {f : Nat} {F : Fun} {args : List AV} {h : qaA} {r : Res × qaA} (hs : body IP c l f F args h = some r) : body IP c' l' f F args h = some r := by
 simp only [body] at hs ⊢
 cases hq : qkk IP c l F.body ⟨params 0 args, h, h.length, h.length⟩ with
 | none => simp [hq] at hs
 | some q => rw [qDN hc hl hq]; rw [hq] at hs; exact hs
theorem qAe : ∀ n, LeC (qaP IP n).1 (qaP IP (n + 1)).1 /\ LeL (qaP IP n).2 (qaP IP (n + 1)).2
 | 0 => ⟨fun f a h r hr => by simp [qaP] at hr, fun k c s r hr => by simp [qaP] at hr⟩
 | n + 1 => by
  obtain ⟨h1, h2⟩ := qAe n
  constructor
  ·intro f a h r hr
   have e1 : (qaP IP (n + 1)).1 f a h = match IP.fn f with
    | some F => body IP (qaP IP n).1 (qaP IP n).2 f F a h
    | none => match IP.spec f with
     | some g => g a h
     | none => match IP.seen f with
      | some s => s.g (qaP IP n).1 a h
      | none => none := rfl
   have e2 : (qaP IP (n + 1 + 1)).1 f a h = match IP.fn f with
    | some F => body IP (qaP IP (n + 1)).1 (qaP IP (n + 1)).2 f F a h
    | none => match IP.spec f with
     | some g => g a h
     | none => match IP.seen f with
      | some s => s.g (qaP IP (n + 1)).1 a h
      | none => none := rfl
   rw [e1] at hr
   rw [e2]
   split at hr
   ·exact qZP h1 h2 hr
   ·split at hr
    ·exact hr
    ·split at hr
     ·rename_i s hs
      exact s.mono _ _ h1 _ _ _ hr
     ·cases hr
  ·intro k c s r hr
   have e1 : ∀ m, (qaP IP (m + 1)).2 k c s = match norm (hk k) s with
    | none => none
    | some s => match qkk IP (qaP IP m).1 (qaP IP m).2 c s with
     | some (.normal, s) => (qaP IP m).2 k c s
     | some (x, s) => q4B k x s
     | none => none := fun _ => rfl
   rw [e1] at hr ⊢
   split at hr
   ·cases hr
   ·rename_i s1 hn
    split at hr
    ·rename_i s2 hx
     simp only [qDN h1 h2 hx]
     exact h2 _ _ _ _ hr
    ·rename_i x s2 hne hx
     simp only [qDN h1 h2 hx]
     cases x with
     | normal => exact absurd rfl (hne)
     | _ => exact hr
    ·cases hr
theorem qgG {n m : Nat} (h : n <= m) : LeC (qaP IP n).1 (qaP IP m).1 /\ LeL (qaP IP n).2 (qaP IP m).2 := by
 induction h with
 | refl => exact ⟨fun _ _ _ _ h => h, fun _ _ _ _ h => h⟩
 | step _ ih =>
  obtain ⟨h1, h2⟩ := qAe (IP := IP) _
  exact ⟨fun f a h r hr => h1 _ _ _ _ (ih.1 _ _ _ _ hr), fun k c s r hr => h2 _ _ _ _ (ih.2 _ _ _ _ hr)⟩
open Classical in
noncomputable def qfw (IP : Prog) : qdr := fun f a h => if hx : ∃ n r, (qaP IP n).1 f a h = some r then (qaP IP (Classical.choose hx)).1 f a h else none
open Classical in
noncomputable def qu4 (IP : Prog) : qs4 := fun k c s => if hx : ∃ n r, (qaP IP n).2 k c s = some r then (qaP IP (Classical.choose hx)).2 k c s else none
theorem qgR {f : Nat} {a : List AV} {h : qaA} {r : Res × qaA} : qfw IP f a h = some r ↔ ∃ n, (qaP IP n).1 f a h = some r := by
 constructor
 ·intro hr
  simp only [qfw] at hr
  split at hr
  ·exact ⟨_, hr⟩
  ·cases hr
 ·rintro ⟨n, hn⟩
  have hx : ∃ n r, (qaP IP n).1 f a h = some r := ⟨n, r, hn⟩
  simp only [qfw, dif_pos hx]
  obtain ⟨r', hr'⟩ := Classical.choose_spec hx
  rw [hr']
  rcases Nat.le_total n (Classical.choose hx) with hle | hle
  ·rw [(qgG hle).1 _ _ _ _ hn] at hr'; exact hr'.symm
  ·have := (qgG hle).1 _ _ _ _ hr'
   rw [hn] at this; exact this.symm
theorem qov {k : List Nat} {c : ICode} {s : St} {r : X × St} : qu4 IP k c s = some r ↔ ∃ n, (qaP IP n).2 k c s = some r := by
 constructor
 ·intro hr
  simp only [qu4] at hr
  split at hr
  ·exact ⟨_, hr⟩
  ·cases hr
 ·rintro ⟨n, hn⟩
  have hx : ∃ n r, (qaP IP n).2 k c s = some r := ⟨n, r, hn⟩
  simp only [qu4, dif_pos hx]
  obtain ⟨r', hr'⟩ := Classical.choose_spec hx
  rw [hr']
  rcases Nat.le_total n (Classical.choose hx) with hle | hle
  ·rw [(qgG hle).2 _ _ _ _ hn] at hr'; exact hr'.symm
  ·have := (qgG hle).2 _ _ _ _ hr'
   rw [hn] at this; exact this.symm
theorem qDF {h : qaA} {nx f : Nat} {args : List AV} {r : Res × qaA × Bool} (hs : qrm IP (qfw IP) h nx f args = some r) : ∃ n0, ∀ n, n0 <= n -> qrm IP (qaP IP n).1 h nx f args = some r := by
 have hs0 := hs
 simp only [qrm] at hs
 split at hs
 ·cases hs
 ·rename_i args' roots hp
  split at hs
  ·rename_i moved shwn h1 h2
   split at hs
   ·rename_i hd
    split at hs
    ·cases hs
    ·rename_i r0 h0 hcl
     obtain ⟨n0, hn0⟩ := qgR.1 hcl
     refine ⟨n0, fun n hn => ?_⟩
     have := (qgG hn).1 _ _ _ _ hn0
     simp only [qrm, hp, h1, h2, hd, if_true, this]
     exact hs
   ·cases hs
  ·cases hs
theorem q2b {nx : Nat} {ev : Opd -> AV} {h : qaA} {io : IOp} {r : Res × qaA × Bool} (hs : opS IP (qfw IP) nx ev h io = some r) : ∃ n0, ∀ n, n0 <= n -> opS IP (qaP IP n).1 nx ev h io = some r := by
 cases io <;> try exact ⟨0, fun n _ => hs⟩
 case call f xs => exact qDF hs
 case callv x xs =>
  simp only [opS] at hs ⊢
  split at hs
  ·exact qDF hs
  ·cases hs
 case invk tbl x xs =>
  simp only [opS] at hs ⊢
  split at hs
  ·split at hs
   ·exact qDF hs
   ·cases hs
  ·cases hs
theorem qTx {nx : Nat} {o : IOper} {e : Env} {h : qaA} {s : Step} (hs : qhx IP (qfw IP) nx o e h = some s) : ∃ n0, ∀ n, n0 <= n -> qhx IP (qaP IP n).1 nx o e h = some s := by
 simp only [qhx] at hs ⊢
 split at hs
 ·cases hs
 ·exact ⟨0, fun n _ => hs⟩
 ·split at hs
  ·cases hs
  ·rename_i r hr
   split at hs
   ·cases hs
   ·rename_i v out w ho
    obtain ⟨n0, h0⟩ := q2b ho
    exact ⟨n0, fun n hn => by simp only [h0 n hn]; exact hs⟩
   ·rename_i v out w ho
    obtain ⟨n0, h0⟩ := q2b ho
    exact ⟨n0, fun n hn => by simp only [h0 n hn]; exact hs⟩
theorem qzN : ∀ {ops : List IOper} {e : Env} {h : qaA} {nx : Nat} {log : List Step} {r : X × Env × qaA × List Step}, qg3 IP (qfw IP) ops e h nx log = some r -> ∃ n0, ∀ n, n0 <= n -> qg3 IP (qaP IP n).1 ops e h nx log = some r
 | [], e, h, nx, log, r, hs => ⟨0, fun n _ => hs⟩
 | o :: ops, e, h, nx, log, r, hs => by
  simp only [qg3] at hs ⊢
  cases hq : qhx IP (qfw IP) nx o e h with
  | none => simp [hq] at hs
  | some s =>
   obtain ⟨n0, h0⟩ := qTx hq
   rw [hq] at hs
   cases s with
   | pan a b d => exact ⟨n0, fun n hn => by rw [h0 n hn]; exact hs⟩
   | skip =>
    obtain ⟨n1, h1⟩ := qzN hs
    exact ⟨max n0 n1, fun n hn => by rw [h0 n (by omega)]; exact h1 n (by omega)⟩
   | did a b d f =>
    obtain ⟨n1, h1⟩ := qzN hs
    exact ⟨max n0 n1, fun n hn => by rw [h0 n (by omega)]; exact h1 n (by omega)⟩
theorem qLU {base : Nat} : ∀ {ops : List IOper} {i : Nat} {e : Env} {h : qaA} {log : List Step} {r : Env × qaA × List Step}, qm9 IP (qfw IP) base i ops e h log = some r -> ∃ n0, ∀ n, n0 <= n -> qm9 IP (qaP IP n).1 base i ops e h log = some r
 | [], i, e, h, log, r, hs => ⟨0, fun n _ => hs⟩
 | o :: ops, i, e, h, log, r, hs => by
  simp only [qm9] at hs ⊢
  cases hq : qhx IP (qfw IP) (base + 16 * i) o e h with
  | none => simp [hq] at hs
  | some s =>
   obtain ⟨n0, h0⟩ := qTx hq
   rw [hq] at hs
   simp only at hs
   split at hs
   ·rename_i ht
    obtain ⟨n1, h1⟩ := qLU hs
    exact ⟨max n0 n1, fun n hn => by rw [h0 n (by omega)]; simp only; rw [if_pos ht]; exact h1 n (by omega)⟩
   ·cases hs
theorem qNm {ops : List IOper} {d : Option (List (List Nat))} {s : St} {r : X × St} (hs : qdH IP (qfw IP) ops d s = some r) : ∃ n0, ∀ n, n0 <= n -> qdH IP (qaP IP n).1 ops d s = some r := by
 simp only [qdH] at hs ⊢
 cases d with
 | none =>
  simp only at hs ⊢
  split at hs
  ·cases hs
  ·rename_i q
   obtain ⟨n0, h0⟩ := qzN q
   exact ⟨n0, fun n hn => by rw [h0 n hn]; exact hs⟩
 | some bf =>
  simp only at hs ⊢
  split at hs
  ·cases hs
  ·rename_i q
   obtain ⟨n0, h0⟩ := qLU q
   exact ⟨n0, fun n hn => by simp only [h0 n hn]; exact hs⟩
theorem qXQ : ∀ {ic : ICode} {s : St} {r : X × St}, qkk IP (qfw IP) (qu4 IP) ic s = some r -> ∃ n0, ∀ n, n0 <= n -> qkk IP (qaP IP n).1 (qaP IP n).2 ic s = some r := by
 intro ic
 induction ic with
 | skip => intro s r h; exact ⟨0, fun n _ => h⟩
 | region ops d => intro s r h; exact qNm h
 | seq a b iha ihb =>
  intro s r h
  simp only [qkk] at h ⊢
  split at h
  ·rename_i s1 h1
   obtain ⟨n0, h0⟩ := iha h1
   obtain ⟨n1, h1⟩ := ihb h
   exact ⟨max n0 n1, fun n hn => by rw [h0 n (by omega)]; exact h1 n (by omega)⟩
  ·rename_i hne
   obtain ⟨n0, h0⟩ := iha h
   refine ⟨n0, fun n hn => ?_⟩
   rw [h0 n hn]
   split
   ·rename_i s1 he
    cases he
    exact absurd h (hne s1)
   ·rfl
 | cond x a b iha ihb =>
  intro s r h
  simp only [qkk] at h ⊢
  split at h
  ·exact iha h
  ·exact ihb h
  ·cases h
 | block id a ih =>
  intro s r h
  simp only [qkk] at h ⊢
  split at h
  ·rename_i j s1 h1
   obtain ⟨n0, h0⟩ := ih h1
   exact ⟨n0, fun n hn => by rw [h0 n hn]; exact h⟩
  ·rename_i hne
   obtain ⟨n0, h0⟩ := ih h
   refine ⟨n0, fun n hn => ?_⟩
   rw [h0 n hn]
   split
   ·rename_i j s1 he
    cases he
    exact absurd h (hne j s1)
   ·rfl
 | loop k a ih =>
  intro s r h
  obtain ⟨n0, h0⟩ := qov.1 h
  exact ⟨n0, fun n hn => (qgG hn).2 _ _ _ _ h0⟩
 | exit id => intro s r h; exact ⟨0, fun n _ => h⟩
 | ret => intro s r h; exact ⟨0, fun n _ => h⟩
theorem qLk {f : Nat} {g : List AV -> qaA -> Option (Res × qaA)} (hF : IP.fn f = none) (hS : IP.spec f = some g) {a : List AV} {h : qaA} {r : Res × qaA} (hr : g a h = some r) : qfw IP f a h = some r :=
 qgR.2 ⟨1, by simp only [qaP, hF, hS]; exact hr⟩
theorem q35 {f : Nat} {F : Fun} (hF : IP.fn f = some F) {a : List AV} {h : qaA} {r : Res × qaA} (hb : body IP (qfw IP) (qu4 IP) f F a h = some r) : qfw IP f a h = some r := by
 simp only [body] at hb
 cases hq : qkk IP (qfw IP) (qu4 IP) F.body ⟨params 0 a, h, h.length, h.length⟩ with
 | none => simp [hq] at hb
 | some q =>
  obtain ⟨n0, h0⟩ := qXQ hq
  refine qgR.2 ⟨n0 + 1, ?_⟩
  simp only [qaP, hF, body, h0 n0 (Nat.le_refl _)]
  rw [hq] at hb
  exact hb
theorem qX2 {k : List Nat} {c : ICode} {s s1 : St} (hn : norm (hk k) s = some s1) {x : X} {s2 : St} (hx : qkk IP (qfw IP) (qu4 IP) c s1 = some (x, s2)) {r : X × St} (hr : (match x with | .normal => qu4 IP k c s2 | x => q4B k x s2) = some r) : qu4 IP k c s = some r := by
 obtain ⟨n0, h0⟩ := qXQ hx
 cases x with
 | normal =>
  obtain ⟨n1, h1⟩ := qov.1 hr
  refine qov.2 ⟨max n0 n1 + 1, ?_⟩
  simp only [qaP, hn, h0 (max n0 n1) (by omega)]
  exact (qgG (by omega)).2 _ _ _ _ h1
 | _ =>
  refine qov.2 ⟨n0 + 1, ?_⟩
  simp only [qaP, hn, h0 n0 (Nat.le_refl _)]
  exact hr
end
end Go.Eng
namespace Go.Eng
def qaI (s : List UInt8) (i : Int) : Int := ((qiM s i).getD 0).toNat
def inB (n : Nat) (i : Int) : Bool := decide (0 <= i) && decide (i < n)
theorem qZM {α : Type} {l : List α} {i : Int} (h : inB l.length i = true) : ∃ x, qiM l i = some x := by
 simp only [inB, Bool.and_eq_true, decide_eq_true_eq] at h
 have : i.toNat < l.length := by omega
 exact ⟨l[i.toNat], by simp [qiM, h.1, this]⟩
def q1J : Option AV -> Nat
 | some (.int _ n) => n.toNat
 | _ => 0
def qzq (len : Nat) : Option AV -> Nat
 | some (.int _ n) => n.toNat
 | _ => len
def leB (n : Int) (m : Nat) : Bool := decide (0 <= n) && decide (n <= m)
def q3R (len cap : Nat) (lo hi : Option AV) : Bool :=
 (match hi with
  | none => true
  | some (.int _ n) => leB n cap
  | _ => false) &&
 (match lo with
  | none => true
  | some (.int _ n) => leB n (qzq len hi)
  | _ => false)
theorem qvo {len cap : Nat} {lo hi : Option AV} (h : q3R len cap lo hi = true) : qm1 len cap lo hi = some (q1J lo, qzq len hi) := by
 simp only [q3R, Bool.and_eq_true] at h
 obtain ⟨h1, h2⟩ := h
 have e1 : qYV len cap hi = some (qzq len hi) := by
  cases hi with
  | none => rfl
  | some v => cases v <;> simp_all [leB, qYV, qzq]
 simp only [qm1, e1]
 cases lo with
 | none => rfl
 | some v => cases v <;> simp_all [leB, q6I, q1J]
def q8B {α : Type} (es : List α) (lo hi : Option AV) : List α := match lo, hi with
 | none, none => es
 | none, some h => es.take (qzq es.length (some h))
 | some l, none => es.drop (q1J (some l))
 | some l, some h => (es.drop (q1J (some l))).take (qzq es.length (some h) - q1J (some l))
theorem q0W {α : Type} (es : List α) (lo hi : Option AV) : q8B es lo hi = (es.drop (q1J lo)).take (qzq es.length hi - q1J lo) := by
 cases lo <;> cases hi
 ·simp [q8B, q1J, qzq]
 ·simp [q8B, q1J]
 ·rename_i v
  simp only [q8B]
  rw [show qzq es.length none = es.length from rfl, List.take_of_length_le (by simp)]
 ·rfl
abbrev Alt := Bool × (Res × qaA × Bool)
def room (n bytes : Nat) : Bool := decide (n * bytes <= lim)
def leO (off n : Nat) : Bool := match off with
 | 0 => true
 | k + 1 => decide (k + 1 <= n)
theorem zau {off n : Nat} (h : leO off n = true) : off <= n := by
 cases off
 ·omega
 ·exact of_decide_eq_true h
def zdu (h : qaA) (sz : Nat) : AV -> Option (Bool × List AV)
 | .nils _ => some (true, [])
 | .view sz' es => some (decide (sz' = sz), es)
 | .own id off lo => match qap h id with
  | some (.arr sz' es _) => match lo with
   | some len => some (decide (sz' = sz) && decide (off + len <= es.length), qTA es off (some len))
   | none => some (decide (sz' = sz), qf2 es off)
  | _ => none
 | _ => none
theorem q8p {h : qaA} {sz : Nat} {v : AV} {es : List AV} (hs : zdu h sz v = some (true, es)) : qNt h sz v = some es := by
 cases v <;> simp only [zdu, qNt] at hs ⊢ <;> try (simp at hs; done)
 case nils => simpa using hs
 case view sz' es' => simp at hs; simp [hs]
 case own id off lo =>
  split at hs
  ·rename_i sz' es' fz hl
   rw [hl]
   cases lo with
   | none => simp at hs; simp [hs]
   | some len => simp at hs; simp [hs]
  ·cases hs
def qMv (h : qaA) (nx sz bytes : Nat) (s : AV) (b : Bool) (src : List AV) : List Alt :=
  match s with
  | .nils ⟨_, .non⟩ => [(decide (src.length = 0) && b, .ret s, h, true)]
  | .nils _ => [(decide (src.length = 0) && b, .ret s, h, true), (decide (src.length ≠ 0) && (b && room src.length bytes), .ret (.own nx 0 none), qft h nx (.arr sz src false), true)]
  | .own id off lo => match qap h id with
    | some (.arr sz' es false) => match lo with
      | none =>
        [(decide (src.length = 0) && (decide (sz' = sz) && b), .ret s, h, true),
         (decide (src.length ≠ 0) && (decide (sz' = sz) && (b && (leO off es.length && room (qrd es.length off none + src.length) bytes))), .ret (.own nx 0 none), qft (qV4 h id) nx (.arr sz (qf2 es off ++ src) false), true)]
      | some len =>
        [(decide (src.length = 0) && (decide (sz' = sz) && b), .ret s, h, true),
         (decide (src.length ≠ 0) && (decide (sz' = sz) && (decide (off + len + src.length <= es.length) && b)), .ret (.own id off (some (len + src.length))), qft h id (.arr sz (es.take (off + len) ++ src ++ es.drop (off + len + src.length)) false), true),
         (decide (src.length ≠ 0) && (decide (sz' = sz) && (decide (es.length < off + len + src.length) && (b && (decide (off + len <= es.length) && room (len + src.length) bytes)))), .ret (.own nx 0 none), qft (qV4 h id) nx (.arr sz (qTA es off (some len) ++ src) false), true)]
    | _ => []
  | .view _ _ => [(decide (src.length = 0) && b, .ret s, h, true)]
  | _ => []
def ownB (num off : Nat) (lo : Option Nat) (i : Int) : Bool := match off, lo with
 | 0, none => inB num i
 | _, _ => inB (qrd num off lo) i && decide (off + i.toNat < num)
theorem ownB_of {num off : Nat} {lo : Option Nat} {i : Int} (h : ownB num off lo i = true) : 0 <= i /\ i < qrd num off lo /\ off + i.toNat < num := by
 unfold ownB at h
 split at h
 ·simp only [inB, Bool.and_eq_true, decide_eq_true_eq] at h
  exact ⟨h.1, h.2, by omega⟩
 ·simp only [inB, Bool.and_eq_true, decide_eq_true_eq] at h
  exact ⟨h.1.1, h.1.2, h.2⟩
def endB (num off : Nat) (lo : Option Nat) (hi : Option AV) : Bool := match off, lo, hi with
 | 0, none, none => true
 | _, _, _ => decide (off + qzq (qrd num off lo) hi <= num)
theorem q6t {num off : Nat} {lo : Option Nat} {hi : Option AV} (h : endB num off lo hi = true) : off + qzq (qrd num off lo) hi <= num := by
 unfold endB at h
 split at h
 ·simp [qzq, qrd]
 ·exact of_decide_eq_true h
def zaF (ks : Key) (m : List (AV × AV)) (k v : AV) : List (AV × AV) := (qY0 ks m k v).getD []
def zaA (ks : Key) (m : List (AV × AV)) (k : AV) : List (AV × AV) := (q4q ks m k).getD []
def zaE (ks : Key) (m : List (AV × AV)) (k v : AV) : Bool := isKey ks k && (qY0 ks m k v).isSome
def zaz (ks : Key) (m : List (AV × AV)) (k : AV) : Bool := isKey ks k && (q4q ks m k).isSome
def alts (nx : Nat) (ev : Opd -> AV) (h : qaA) : IOp -> List Alt
 | .idxs x i => match ev x, ev i with
  | .str s, .int _ j => [(inB s.length j, .ret (.int .u8 (qaI s j)), h, false)]
  | _, _ => []
 | .slc sz x lo hi => match ev x with
  | .view sz' es => [(decide (sz' = sz) && q3R es.length es.length (qds ev lo) (qds ev hi), .ret (.view sz (q8B es (qds ev lo) (qds ev hi))), h, false)]
  | .own id off len => match qap h id with
   | some (.arr sz' es _) => [(decide (sz' = sz) && (q3R (qrd es.length off len) (qrd es.length off none) (qds ev lo) (qds ev hi) && endB es.length off len (qds ev hi)),
     .ret (.own id (off + q1J (qds ev lo)) (zbb len hi (qzq (qrd es.length off len) (qds ev hi) - q1J (qds ev lo)))), h, false)]
   | _ => []
  | .nils z => [(q3R 0 0 (qds ev lo) (qds ev hi), .ret (.nils z), h, false)]
  | _ => []
 | .slcs x lo hi => match ev x with
  | .str s => [(q3R s.length s.length (qds ev lo) (qds ev hi), .ret (.str (q8B s (qds ev lo) (qds ev hi))), h, false)]
  | _ => []
 | .slc3 x lo hi mx => match ev lo, ev hi, ev mx with
  | .int _ l, .int _ u, .int _ m => match ev x with
   | .view _ es => [(decide (0 <= l) && decide (l <= u) && decide (u <= m) && decide (m <= es.length), .ret .junk, h, false)]
   | .own id off _ => match qap h id with
    | some (.arr _ es _) => [(decide (0 <= l) && decide (l <= u) && decide (u <= m) && decide (m <= ((es.length - off : Nat) : Int)), .ret .junk, h, false)]
    | _ => []
   | _ => []
  | _, _, _ => []
 | .iaddr sz _ x i => match ev x, ev i with
  | .own id off len, .int _ i => match qap h id with
   | some (.arr sz' es _) => [(decide (sz' = sz) && ownB es.length off len i, .ret (.ref id (zbf off i) 0), h, false)]
   | _ => []
  | _, _ => []
 | .eqn k neg x y => match k, ev x, ev y with
  | .s, .view _ es, .nils ⟨_, .nil⟩ => [(decide (es.length ≠ 0), .ret (.bool neg), h, false)]
  | .s, .nils ⟨_, .nil⟩, .view _ es => [(decide (es.length ≠ 0), .ret (.bool neg), h, false)]
  | _, _, _ => []
 | .app sz bytes s x => match zdu h sz (ev x) with
  | some (b, src) => qMv h nx sz bytes (ev s) b src
  | none => []
 | .clr sz z x => match ev x with
  | .own id off lo => match qap h id with
   | some (.arr sz' es false) => [(decide (sz' = sz) && decide (off + qrd es.length off lo <= es.length), .ret unit, qft h id (.arr sz (es.take off ++ List.replicate (qrd es.length off lo) (nz z) ++ es.drop (off + qrd es.length off lo)) false), true)]
   | _ => []
  | _ => []
 | .mks sz bytes z l c => match ev l, ev c with
  | .int _ l', .int _ c' => [(decide (0 <= l') && decide (l' <= c') && room c'.toNat bytes && decide (c' <= 4611686018427387904), .ret (.own nx 0 (if q4E l c then none else some l'.toNat)), qft h nx (.arr sz (List.replicate c'.toNat (nz z)) false), false)]
  | _, _ => []
 | .mupd ks m k v => match ev m with
  | .mref id => match idsA (ev k), idsA (ev v), qap h id with
   | [], [], some (.mp kvs) => [(zaE ks kvs (ev k) (nz (ev v)), .ret unit, qft h id (.mp (zaF ks kvs (ev k) (nz (ev v)))), true)]
   | _, _, _ => []
  | _ => []
 | .mdel ks m k => match ev m with
  | .mref id => match qap h id with
   | some (.mp kvs) => [(zaz ks kvs (ev k), .ret unit, qft h id (.mp (zaA ks kvs (ev k))), true)]
   | _ => []
  | _ => []
 | .bin .quo x y => match ev x, ev y with
  | .int k a, .int k' b => [(decide (k = k') && decide (b ≠ 0), .ret (.int k (k.wrap (a.tdiv b))), h, false)]
  | _, _ => []
 | .bin .rem x y => match ev x, ev y with
  | .int k a, .int k' b => [(decide (k = k') && decide (b ≠ 0), .ret (.int k (a.tmod b)), h, false)]
  | _, _ => []
 | .bin .shl x y => match ev x, ev y with
  | .int k a, .int _ b => [(decide (0 <= b), .ret (.int k (k.wrap (a * 2 ^ (min b.toNat k.bits)))), h, false)]
  | _, _ => []
 | .bin .shr x y => match ev x, ev y with
  | .int k a, .int _ b => [(decide (0 <= b), .ret (.int k (a.fdiv (2 ^ (min b.toNat k.bits)))), h, false)]
  | _, _ => []
 | .bin .add x y => match ev x, ev y with
  | .str a, .str b => [(decide (a.length + b.length <= 4611686018427387904), .ret (.str (a ++ b)), h, false)]
  | _, _ => []
 | _ => []
theorem qYM {h : qaA} {nx sz bytes : Nat} {s : AV} {src : List AV} {b : Bool} {r : Res × qaA × Bool} (hm : (true, r) ∈ qMv h nx sz bytes s b src) : b = true /\ ∃ v h', qYL h nx sz bytes s src = some (v, h') /\ r = (.ret v, h', true) := by
 cases s <;> simp only [qMv] at hm <;> try (simp at hm; done)
 case nils q =>
  obtain ⟨q, k⟩ := q
  cases k <;> simp only [qMv] at hm
  case non =>
   simp only [List.mem_cons, Prod.mk.injEq, List.not_mem_nil, or_false] at hm
   obtain ⟨hb, rfl⟩ := hm
   simp only [eq_comm (a := true), Bool.and_eq_true, decide_eq_true_eq] at hb
   exact ⟨hb.2, _, _, by simp [qYL, hb.1], rfl⟩
  all_goals
   simp only [List.mem_cons, Prod.mk.injEq, List.not_mem_nil, or_false] at hm
   rcases hm with ⟨hb, rfl⟩ | ⟨hb, rfl⟩ <;> simp only [eq_comm (a := true), Bool.and_eq_true, decide_eq_true_eq, room] at hb
   ·exact ⟨hb.2, _, _, by simp [qYL, hb.1], rfl⟩
   ·obtain ⟨h1, h0, h2⟩ := hb
    exact ⟨h0, _, _, by simp only [qYL]; rw [if_neg h1, if_pos h2], rfl⟩
 case view sz' es =>
  simp only [List.mem_cons, Prod.mk.injEq, List.not_mem_nil, or_false] at hm
  obtain ⟨hb, rfl⟩ := hm
  simp only [eq_comm (a := true), Bool.and_eq_true, decide_eq_true_eq] at hb
  exact ⟨hb.2, _, _, by simp only [qYL]; rw [if_pos hb.1], rfl⟩
 case own id off lo =>
  split at hm
  ·rename_i sz' es hl
   cases lo with
   | none =>
    simp only [List.mem_cons, Prod.mk.injEq, List.not_mem_nil, or_false] at hm
    rcases hm with ⟨hb, rfl⟩ | ⟨hb, rfl⟩ <;> simp only [eq_comm (a := true), Bool.and_eq_true, decide_eq_true_eq, room] at hb
    ·obtain ⟨h3, h1, h0⟩ := hb
     exact ⟨h0, _, _, by simp only [qYL, hl]; rw [if_pos h1, if_pos h3], rfl⟩
    ·obtain ⟨h3, h1, h0, h2, h5⟩ := hb
     exact ⟨h0, _, _, by simp only [qYL, hl]; rw [if_pos h1, if_neg h3, if_pos ⟨zau h2, h5⟩], rfl⟩
   | some len =>
    simp only [List.mem_cons, Prod.mk.injEq, List.not_mem_nil, or_false] at hm
    rcases hm with ⟨hb, rfl⟩ | ⟨hb, rfl⟩ | ⟨hb, rfl⟩ <;> simp only [eq_comm (a := true), Bool.and_eq_true, decide_eq_true_eq, room] at hb
    ·obtain ⟨h3, h1, h0⟩ := hb
     exact ⟨h0, _, _, by simp only [qYL, hl]; rw [if_pos h1, if_pos h3], rfl⟩
    ·obtain ⟨h3, h1, h4, h0⟩ := hb
     exact ⟨h0, _, _, by simp only [qYL, hl]; rw [if_pos h1, if_neg h3, if_pos (by omega), if_pos h4], rfl⟩
    ·obtain ⟨h3, h1, h4, h0, h2, h5⟩ := hb
     exact ⟨h0, _, _, by simp only [qYL, hl]; rw [if_pos h1, if_neg h3, if_pos h2, if_neg (by omega), if_pos h5], rfl⟩
  ·simp at hm
theorem q56 {P : Prog} {call : qdr} {nx : Nat} {ev : Opd -> AV} {h : qaA} {io : IOp} {r : Res × qaA × Bool} (hm : (true, r) ∈ alts nx ev h io) : opS P call nx ev h io = some r := by
 cases io <;> simp only [alts] at hm <;> try (simp at hm; done)
 case idxs x i =>
  split at hm
  ·rename_i s k j hx hi
   simp only [List.mem_cons, Prod.mk.injEq, List.not_mem_nil, or_false] at hm
   obtain ⟨hb, rfl⟩ := hm
   obtain ⟨c, hc⟩ := qZM hb.symm
   simp [opS, hx, hi, hc, qaI, val]
  ·simp at hm
 case slc sz x lo hi =>
  split at hm
  ·rename_i sz' es hx
   simp only [List.mem_cons, Prod.mk.injEq, List.not_mem_nil, or_false] at hm
   obtain ⟨hb, rfl⟩ := hm
   simp only [eq_comm (a := true), Bool.and_eq_true, decide_eq_true_eq] at hb
   simp [opS, hx, qvo hb.2, hb.1, val, q0W]
  ·rename_i id off len hx
   split at hm
   ·rename_i sz' es fz hl
    simp only [List.mem_cons, Prod.mk.injEq, List.not_mem_nil, or_false] at hm
    obtain ⟨hb, rfl⟩ := hm
    simp only [eq_comm (a := true), Bool.and_eq_true, decide_eq_true_eq] at hb
    obtain ⟨h1, h2, h3⟩ := hb
    rw [qiK] at h2
    simp [opS, hx, hl, qvo h2, h1, q6t h3, val]
   ·simp at hm
  ·rename_i z hx
   simp only [List.mem_cons, Prod.mk.injEq, List.not_mem_nil, or_false] at hm
   obtain ⟨hb, rfl⟩ := hm
   simp [opS, hx, qvo hb.symm, val]
  ·simp at hm
 case slcs x lo hi =>
  split at hm
  ·rename_i s hx
   simp only [List.mem_cons, Prod.mk.injEq, List.not_mem_nil, or_false] at hm
   obtain ⟨hb, rfl⟩ := hm
   simp [opS, hx, qvo hb.symm, val, q0W]
  ·simp at hm
 case slc3 x lo hi mx =>
  split at hm
  ·rename_i k1 l k2 u k3 m h1 h2 h3
   split at hm
   ·rename_i sz es hx
    simp only [List.mem_cons, Prod.mk.injEq, List.not_mem_nil, or_false] at hm
    obtain ⟨hb, rfl⟩ := hm
    simp only [eq_comm (a := true), Bool.and_eq_true, decide_eq_true_eq] at hb
    simp [opS, h1, h2, h3, hx, hb, val]
   ·rename_i id off len hx
    split at hm
    ·rename_i sz es fz hl
     simp only [List.mem_cons, Prod.mk.injEq, List.not_mem_nil, or_false] at hm
     obtain ⟨hb, rfl⟩ := hm
     simp only [eq_comm (a := true), Bool.and_eq_true, decide_eq_true_eq] at hb
     simp only [opS, h1, h2, h3, hx, hl]
     rw [if_pos ⟨hb.1.1.1, hb.1.1.2, hb.1.2⟩, if_pos hb.2]; rfl
    ·simp at hm
   ·simp at hm
  ·simp at hm
 case iaddr sz ks x i =>
  split at hm
  ·rename_i id off len k j hx hi
   split at hm
   ·rename_i sz' es fz hl
    simp only [List.mem_cons, Prod.mk.injEq, List.not_mem_nil, or_false] at hm
    obtain ⟨hb, rfl⟩ := hm
    simp only [eq_comm (a := true), Bool.and_eq_true, decide_eq_true_eq] at hb
    obtain ⟨h1, h2, h3⟩ := ownB_of hb.2
    simp [opS, hx, hi, hl, hb.1, h1, h2, h3, val]
   ·simp at hm
  ·simp at hm
 case eqn k neg x y =>
  split at hm
  ·rename_i h1 h2
   simp only [List.mem_cons, Prod.mk.injEq, List.not_mem_nil, or_false] at hm
   obtain ⟨hb, rfl⟩ := hm
   simp only [eq_comm (a := true), decide_eq_true_eq] at hb
   simp only [opS, h1, h2, qiS, if_neg hb]
   cases neg <;> simp [val]
  ·rename_i h1 h2
   simp only [List.mem_cons, Prod.mk.injEq, List.not_mem_nil, or_false] at hm
   obtain ⟨hb, rfl⟩ := hm
   simp only [eq_comm (a := true), decide_eq_true_eq] at hb
   simp only [opS, h1, h2, qiS, if_neg hb]
   cases neg <;> simp [val]
  ·simp at hm
 case app sz bytes s x =>
  split at hm
  ·rename_i b src hs
   obtain ⟨rfl, v, h', h1, rfl⟩ := qYM hm
   simp only [opS, q8p hs, h1]
  ·simp at hm
 case clr sz z x =>
  split at hm
  ·rename_i id off len hx
   split at hm
   ·rename_i sz' es hl
    simp only [List.mem_cons, Prod.mk.injEq, List.not_mem_nil, or_false] at hm
    obtain ⟨hb, rfl⟩ := hm
    simp only [eq_comm (a := true), Bool.and_eq_true, decide_eq_true_eq] at hb
    simp [opS, hx, hl, hb]
   ·simp at hm
  ·simp at hm
 case mks sz bytes z l c =>
  split at hm
  ·rename_i k1 l' k2 c' h1 h2
   simp only [List.mem_cons, Prod.mk.injEq, List.not_mem_nil, or_false] at hm
   obtain ⟨hb, rfl⟩ := hm
   simp only [eq_comm (a := true), Bool.and_eq_true, decide_eq_true_eq, room] at hb
   simp [opS, h1, h2, hb]
  ·simp at hm
 case mupd ks m k v =>
  split at hm
  ·rename_i id hx
   split at hm
   ·rename_i kvs h1 h2 h3
    simp only [List.mem_cons, Prod.mk.injEq, List.not_mem_nil, or_false] at hm
    obtain ⟨hb, rfl⟩ := hm
    simp only [eq_comm (a := true), zaE, Bool.and_eq_true] at hb
    obtain ⟨kvs', hk⟩ := Option.isSome_iff_exists.1 hb.2
    simp [opS, hx, h1, h2, h3, hb.1, hk, zaF]
   ·simp at hm
  ·simp at hm
 case mdel ks m k =>
  split at hm
  ·rename_i id hx
   split at hm
   ·rename_i kvs h3
    simp only [List.mem_cons, Prod.mk.injEq, List.not_mem_nil, or_false] at hm
    obtain ⟨hb, rfl⟩ := hm
    simp only [eq_comm (a := true), zaz, Bool.and_eq_true] at hb
    obtain ⟨kvs', hk⟩ := Option.isSome_iff_exists.1 hb.2
    simp [opS, hx, h3, hb.1, hk, zaA]
   ·simp at hm
  ·simp at hm
 case bin op x y =>
  cases op <;> simp only [alts] at hm <;> try (simp at hm; done)
  all_goals
   split at hm
   ·rename_i h1 h2
    simp only [List.mem_cons, Prod.mk.injEq, List.not_mem_nil, or_false] at hm
    obtain ⟨hb, rfl⟩ := hm
    simp only [eq_comm (a := true), Bool.and_eq_true, decide_eq_true_eq] at hb
    simp [opS, h1, h2, za6, zbw, zbx, hb, qTS]
   ·simp at hm
def qJq (h : qaA) : Nat -> AV -> AV
 | 0, v => v
 | n + 1, v => match v with
  | .nils q => .view q.sz []
  | .own id off lo => match qap h id with
   | some (.arr sz es _) => .view sz (qTA es off lo)
   | _ => .junk
  | .ref id _ off => match qap h id with
   | some (.box cs _) => .ptr ((cs.map (qJq h n)).drop off)
   | _ => .junk
  | .agg cs => .agg (cs.map (qJq h n))
  | .tup vs => .tup (vs.map (qJq h n))
  | .fn f cap => .fn f (cap.map (qJq h n))
  | .iface t v => .iface t (qJq h n v)
  | v => v
def qgb (h : qaA) : Nat -> AV -> Bool
 | 0, _ => false
 | n + 1, v => match v with
  | .own id off lo => match qap h id with
   | some (.arr _ es _) => match lo with
    | some len => decide (off + len <= es.length)
    | none => true
   | _ => false
  | .ref id idx off => match qap h id with
   | some (.box cs _) => decide (idx = 0 /\ off <= cs.length /\ qa9 cs = true) && cs.all (qgb h n)
   | _ => false
  | .mref _ => false
  | .agg cs => cs.all (qgb h n)
  | .tup vs => vs.all (qgb h n)
  | .fn _ cap => cap.all (qgb h n)
  | .iface _ v => qgb h n v
  | _ => true
theorem qJr {h : qaA} : ∀ (n : Nat) (v : AV), qgb h n v = true -> snap h n v = some (qJq h n v)
 | 0, v, hb => by simp [qgb] at hb
 | n + 1, v, hb => by
  have hl : ∀ vs : List AV, vs.all (qgb h n) = true -> qra (snap h n) vs = some (vs.map (qJq h n)) := by
   intro vs
   induction vs with
   | nil => intro _; rfl
   | cons v vs ih =>
    intro hb
    simp only [List.all_cons, Bool.and_eq_true] at hb
    simp only [qra, List.map_cons, qJr n v hb.1, ih hb.2]
  cases v <;> simp only [qgb, snap, qJq] at hb ⊢
  case own id off lo =>
   split at hb
   ·rename_i hk
    simp only [hk]
    cases lo with
    | some len => simp only at hb ⊢; rw [if_pos (of_decide_eq_true hb)]
    | none => rfl
   ·cases hb
  case ref id idx off =>
   split at hb
   ·rename_i hk
    simp only [Bool.and_eq_true] at hb
    simp only [hk]
    rw [if_pos (of_decide_eq_true hb.1), hl _ hb.2]; rfl
   ·cases hb
  case mref => cases hb
  case agg cs => rw [hl _ hb]; rfl
  case tup cs => rw [hl _ hb]; rfl
  case fn f cs => rw [hl _ hb]; rfl
  case iface t v => rw [qJr n v hb]; rfl
end Go.Eng
namespace Go.Eng
def br {R : Type} (b : Bool) (x y : R) : R := match b with
 | true => x
 | false => y
theorem qo6 {R : Type} {b : Bool} {x : Option R} {r : R} (h : br b x none = some r) : b = true /\ x = some r := by
 cases b with
 | true => exact ⟨rfl, h⟩
 | false => cases h
def q8K : Env -> Nat -> AV -> Env
 | [], _, _ => []
 | (j, v) :: e, t, u => if t = j then (j, u) :: e else (j, v) :: q8K e t u
theorem qTF : ∀ {e : Env} {t : Nat} {v : AV}, qgH e t = v -> v ≠ .junk -> q8K e t v = e
 | [], t, v, h, hj => rfl
 | (j, u) :: e, t, v, h, hj => by
  simp only [qgH] at h
  simp only [q8K]
  split
  ·rename_i he; rw [if_pos he] at h; rw [h]
  ·rename_i he; rw [if_neg he] at h; rw [qTF h hj]
section
variable {R : Type}
abbrev qtz (R : Type) := Nat -> List AV -> qaA -> (Res -> qaA -> Option R) -> Option R
abbrev qYJ (R : Type) := List Nat -> ICode -> St -> (X -> St -> Option R) -> Option R
def intOf : AV -> Int
 | .int _ n => n
 | _ => 0
def qbH : AV -> Bool
 | .bool b => b
 | _ => false
def strOf : AV -> List UInt8
 | .str s => s
 | _ => []
def qaj : AV -> List AV
 | .view _ es => es
 | _ => []
def zaV : AV -> List AV
 | .ptr cs => cs
 | _ => []
def q45 : AV -> Bool
 | .nilp => true
 | _ => false
def okC : CS -> AV -> Bool
 | .int k, .int k' _ => decide (k' = k)
 | .bool, .bool _ => true
 | .str, .str _ => true
 | .slice k, .view sz _ => decide (sz = k)
 | .ptr _, .nilp => true
 | .ptr _, .ptr _ => true
 | _, _ => false
def qAn : List CS -> List AV -> Bool
 | [], [] => true
 | c :: cs, x :: xs => okC c x && qAn cs xs
 | _, _ => false
def qay (ks : List CS) (es : List AV) (i : Int) : Bool := match qiM es i with
 | some e => qAn ks (qao e)
 | none => false
def cellAt (es : List AV) (i : Int) (j : Nat) : AV := (qao ((qiM es i).getD .junk))[j]?.getD .junk
def q4A (c : CS) (x : AV) (K : AV -> Option R) : Option R := match c with
 | .int k => K (.int k (intOf x))
 | .bool => K (.bool (qbH x))
 | .str => K (.str (strOf x))
 | .slice k => K (.view k (qaj x))
 | .ptr _ => br (q45 x) (K .nilp) (K (.ptr (zaV x)))
def qLL (es : List AV) (i : Int) : Nat -> List CS -> (List AV -> Option R) -> Option R
 | _, [], K => K []
 | j, c :: cs, K => q4A c (cellAt es i j) fun x => qLL es i (j + 1) cs fun r => K (x :: r)
theorem qYc {c : CS} {x : AV} (h : okC c x = true) {K : AV -> Option R} : q4A c x K = K x := by
 cases c <;> cases x <;> simp_all [okC, q4A, intOf, qbH, strOf, q45, qaj, zaV, br]
theorem qF1 {es : List AV} {i : Int} {e : AV} (he : qiM es i = some e) : ∀ (ks : List CS) (j : Nat) {K : List AV -> Option R}, qAn ks ((qao e).drop j) = true -> qLL es i j ks K = K ((qao e).drop j)
 | [], j, K, h => by
  cases hd : (qao e).drop j with
  | nil => rfl
  | cons => rw [hd] at h; simp [qAn] at h
 | c :: cs, j, K, h => by
  cases hd : (qao e).drop j with
  | nil => rw [hd] at h; simp [qAn] at h
  | cons x xs =>
   rw [hd] at h
   simp only [qAn, Bool.and_eq_true] at h
   have hx : cellAt es i j = x := by
    have h0 := congrArg (·[0]?) hd
    simp only [List.getElem?_drop, Nat.add_zero, List.getElem?_cons_zero] at h0
    simp [cellAt, he, h0]
   have hxs : (qao e).drop (j + 1) = xs := by
    have h0 := congrArg (List.drop 1) hd
    simpa using h0
   simp only [qLL, hx, qYc h.1]
   have := qF1 he cs (j + 1) (K := fun r => K (x :: r)) (by rw [hxs]; exact h.2)
   rw [this, hxs]
def qLQ (h : qaA) (all : Bool) : List AV -> (List AV -> List Nat -> Option R) -> Option R
 | [], K => K [] []
 | v :: vs, K => if q46 v || all then qLQ h all vs fun vs b => K (v :: vs) ([] ++ b) else match idsA v with
  | [] => qLQ h all vs fun vs b => K (nz v :: vs) ([] ++ b)
  | ids => br (qgb h qdu v) (qLQ h all vs fun vs b => K (qJq h qdu v :: vs) (ids ++ b)) none
theorem qm7 {h : qaA} {all : Bool} {ρ : R} : ∀ {vs : List AV} {K : List AV -> List Nat -> Option R}, qLQ h all vs K = some ρ -> ∃ a b, qNd h all vs = some (a, b) /\ K a b = some ρ
 | [], K, hs => ⟨_, _, rfl, hs⟩
 | v :: vs, K, hs => by
  simp only [qLQ] at hs
  split at hs
  ·rename_i hc
   obtain ⟨a, b, h1, h2⟩ := qm7 hs
   exact ⟨_, _, by simp only [qNd, q8F, hc, if_true, h1], h2⟩
  ·rename_i hc
   split at hs
   ·rename_i hi
    obtain ⟨a, b, h1, h2⟩ := qm7 hs
    refine ⟨_, _, ?_, h2⟩
    simp only [qNd, q8F, h1]
    rw [if_neg hc, hi]
   ·rename_i ids hi
    obtain ⟨hb, hs⟩ := qo6 hs
    obtain ⟨a, b, h1, h2⟩ := qm7 hs
    refine ⟨_, _, ?_, h2⟩
    simp only [qNd, q8F, h1, if_neg hc, qJr _ _ hb]
def qQG (P : Prog) (cK : qtz R) (h : qaA) (nx f : Nat) (args : List AV) (K : Res × qaA × Bool -> Option R) : Option R :=
 qLQ h (P.mv f) args fun args' roots =>
  match qeP qdu h (idsA.idsL args') [], qeP qdu h roots [] with
  | some moved, some shown =>
   if q3S moved shown then
    cK f (ren.renL (place moved) args') (qsv (place moved) (sub h moved)) fun r h' =>
     if h'.all (fun p => decide (p.1 < moved.length + 16)) then
      let touched := !shown.isEmpty && (shows (q4D r) || !h'.isEmpty)
      let old := qbs h moved
      K (q49 (ren (back moved nx)) r, qsv (back moved nx) h' ++ (if touched then freeze old shown else old), !moved.isEmpty || touched)
     else none
   else none
  | _, _ => none
def q1V : qdr := fun _ _ _ => none
def zdx (K : Res × qaA × Bool -> Option R) : List Alt -> Option R
 | [] => none
 | (b, r) :: l => br b (K r) (zdx K l)
def qxv (P : Prog) (nx : Nat) (ev : Opd -> AV) (h : qaA) (io : IOp) (K : Res × qaA × Bool -> Option R) : Option R :=
 match alts nx ev h io with
 | [] => match opS P q1V nx ev h io with
  | some r => K r
  | none => none
 | l => zdx K l
def okE (ag : Bool) (ks : List CS) (es : List AV) (i : Int) : Bool := match qiM es i with
 | some (.agg cs) => ag && qAn ks cs
 | some e => !ag && qAn ks [e]
 | none => false
def qVX (ag : Bool) (cs : List AV) : AV := match ag, cs with
 | true, cs => .agg cs
 | false, [v] => v
 | false, _ => .junk
theorem zaR {ag : Bool} {ks : List CS} {es : List AV} {i : Int} (h : okE ag ks es i = true) : ∃ e, qiM es i = some e /\ qAn ks (qao e) = true /\ ∀ cs, elemOf e cs = qVX ag cs := by
 simp only [okE] at h
 split at h
 ·rename_i cs he
  simp only [Bool.and_eq_true] at h
  exact ⟨_, he, h.2, fun cs' => by simp [elemOf, qVX, h.1]⟩
 ·rename_i e hne he
  simp only [Bool.and_eq_true, Bool.not_eq_true'] at h
  have hc : qao e = [e] := by cases e <;> first | rfl | exact absurd rfl (hne _)
  refine ⟨_, he, by rw [hc]; exact h.2, fun cs' => ?_⟩
  rw [h.1]
  cases e <;> first | exact absurd rfl (hne _) | (rcases cs' with _ | ⟨v, _ | ⟨w, vs⟩⟩ <;> rfl)
 ·cases h
def csZ : AV -> Option CS
 | .int k _ => some (.int k)
 | .bool _ => some .bool
 | .str _ => some .str
 | .nils q => some (.slice q.sz)
 | .view k _ => some (.slice k)
 | _ => none
def zdE : List AV -> Option (List CS)
 | [] => some []
 | v :: vs => match csZ v, zdE vs with
  | some c, some cs => some (c :: cs)
  | _, _ => none
def ksZ : AV -> Option (Bool × List CS)
 | .agg cs => (zdE cs).map fun ks => (true, ks)
 | v => (csZ v).map fun k => (false, [k])
def qcK (ks : Key) (m : List (AV × AV)) (k : AV) : AV := match qFS ks m k with
 | some (some v) => v
 | _ => .junk
def qre (ks : Key) (m : List (AV × AV)) (k : AV) : Bool := isKey ks k && match qFS ks m k with
 | some (some _) => true
 | _ => false
def qrf (ks : Key) (m : List (AV × AV)) (k : AV) : Bool := isKey ks k && match qFS ks m k with
 | some none => true
 | _ => false
def qaz (es : List AV) (i j : Nat) : AV := (qao (es[i]?.getD .junk))[j]?.getD .junk
def okP (ks : List CS) (es : List AV) (i off : Nat) : Bool := match es[i]? with
 | some e => qAn ks (((qao e).drop off).take ks.length)
 | none => false
def q2e (es : List AV) (i : Nat) : Nat -> List CS -> (List AV -> Option R) -> Option R
 | _, [], K => K []
 | j, c :: cs, K => q4A c (qaz es i j) fun x => q2e es i (j + 1) cs fun r => K (x :: r)
theorem qYd {es : List AV} {i : Nat} {e : AV} (he : es[i]? = some e) : ∀ (ks : List CS) (j : Nat) {K : List AV -> Option R}, qAn ks (((qao e).drop j).take ks.length) = true -> q2e es i j ks K = K (((qao e).drop j).take ks.length)
 | [], j, K, h => by simp [q2e]
 | c :: cs, j, K, h => by
  cases hd : (qao e).drop j with
  | nil => rw [hd] at h; simp [qAn] at h
  | cons x xs =>
   rw [hd] at h
   simp only [List.length_cons, List.take_succ_cons, qAn, Bool.and_eq_true] at h
   have hx : qaz es i j = x := by
    have h0 := congrArg (·[0]?) hd
    simp only [List.getElem?_drop, Nat.add_zero, List.getElem?_cons_zero] at h0
    simp [qaz, he, h0]
   have hxs : (qao e).drop (j + 1) = xs := by
    have h0 := congrArg (List.drop 1) hd
    simpa using h0
   simp only [q2e, hx, qYc h.1, List.length_cons, List.take_succ_cons]
   have := qYd he cs (j + 1) (K := fun r => K (x :: r)) (by rw [hxs]; exact h.2)
   rw [this, hxs]
theorem qYb : ∀ {ks : List CS} {xs : List AV}, qAn ks xs = true -> xs.length = ks.length
 | [], [], _ => rfl
 | [], _ :: _, h => by simp [qAn] at h
 | _ :: _, [], h => by simp [qAn] at h
 | k :: ks, x :: xs, h => by
  simp only [qAn, Bool.and_eq_true] at h
  simp [qYb h.2]
def qfu (es : List AV) (i off : Nat) (vs : List AV) : List AV := match es[i]? with
 | some e => es.set i (elemOf e (splice (qao e) off vs))
 | none => es
def okS (es : List AV) (i off n : Nat) : Bool := match es[i]? with
 | some e => decide (off + n <= (qao e).length)
 | none => false
def q2P (h : qaA) (v : AV) (K : AV -> qaA -> Option R) : Option R := match idsA v with
 | [] => K (nz v) h
 | ids => match qeP qdu h ids [] with
  | some r => br (qgb h qdu v) (K (qJq h qdu v) (freeze h r)) none
  | none => none
theorem qTy {h : qaA} {v : AV} {K : AV -> qaA -> Option R} {ρ : R} (hs : q2P h v K = some ρ) : ∃ v' h', still h v = some (v', h') /\ K v' h' = some ρ := by
 simp only [q2P] at hs
 split at hs
 ·rename_i hi
  exact ⟨_, _, by simp only [still, hi], hs⟩
 ·rename_i ids hi
  split at hs
  ·rename_i r hr
   obtain ⟨hb, hs⟩ := qo6 hs
   refine ⟨_, _, ?_, hs⟩
   cases hq : idsA v with
   | nil => exact absurd hq hi
   | cons i is =>
    rw [hq] at hr
    simp only [still, hq, qJr _ _ hb, hr]
  ·cases hs
def zar (agg : Bool) (sz : Nat) (cs : List AV) (j : Int) (h : qaA) (K : Res × qaA × Bool -> Option R) : Nat -> Nat -> Option R
 | 0, _ => none
 | r + 1, k => br (decide (j = Int.ofNat k)) (if k * sz <= cs.length then match part agg sz (cs.drop (k * sz)) with
   | some v => K (.ret v, h, false)
   | none => none else none) (zar agg sz cs j h K r (k + 1))
def zav (F : Nat -> Option R) (j : Int) : Nat -> Nat -> Option R
 | 0, _ => none
 | r + 1, k => br (decide (j = Int.ofNat k)) (F k) (zav F j r (k + 1))
def zdB (sz : Nat) (v : AV) (h : qaA) (K : Res × qaA × Bool -> Option R) (k : Nat) : Option R := match v with
 | .ptr cs => if k * sz <= cs.length then K (.ret (.ptr (cs.drop (k * sz))), h, false) else none
 | .ref id idx o => K (.ret (.ref id idx (o + k * sz)), h, false)
 | _ => none
def opK (P : Prog) (cK : qtz R) (nx : Nat) (ev : Opd -> AV) (h : qaA) (io : IOp) (K : Res × qaA × Bool -> Option R) : Option R :=
 match io with
 | .iaddr sz ks x i => match ks, ev x, ev i with
  | _ :: _, .view sz' es, .int _ j => if sz' = sz then br (qay ks es j) (qLL es j 0 ks fun cs => K (.ret (.ptr cs), h, false)) none else none
  | _, _, _ => qxv P nx ev h (.iaddr sz ks x i) K
 | .load agg n ks x => match ev x with
  | .ref id idx off => match qap h id with
   | some (.arr _ es _) => if ks.length = n /\ 0 < n /\ (agg = true \/ n = 1) then
     br (okP ks es idx off) (q2e es idx off ks fun cs => K (.ret (if agg then .agg cs else cs.headD .junk), h, false)) none
    else none
   | _ => qxv P nx ev h (.load agg n ks x) K
  | _ => qxv P nx ev h (.load agg n ks x) K
 | .store n x v => match ev x with
  | .ref id idx off => match qap h id with
   | some (.arr _ es false) => q2P h (ev v) fun v h => match qap h id with
    | some (.arr sz _ false) => if (qao v).length = n /\ qa9 (qao v) = true then
      br (okS es idx off n) (K (.ret unit, qft h id (.arr sz (qfu es idx off (qao v)) false), true)) none
     else none
    | _ => none
   | _ => qxv P nx ev h (.store n x v) K
  | _ => qxv P nx ev h (.store n x v) K
 | .look ks z ok m k => match ev m with
  | .mref id => match qap h id with
   | some (.mp kvs) => match ksZ z with
    | some (ag, cs) => br (qre ks kvs (ev k)) (br (okE ag cs [qcK ks kvs (ev k)] 0) (qLL [qcK ks kvs (ev k)] 0 0 cs fun cs => K (.ret (if ok then .tup [qVX ag cs, .bool true] else qVX ag cs), h, false)) none)
      (br (qrf ks kvs (ev k)) (K (.ret (if ok then .tup [z, .bool false] else z), h, false)) none)
    | none => qxv P nx ev h (.look ks z ok m k) K
   | _ => qxv P nx ev h (.look ks z ok m k) K
  | _ => qxv P nx ev h (.look ks z ok m k) K
 | .pick c a b => match ev c with
  | .bool t => br t (K (.ret (ev a), h, false)) (K (.ret (ev b), h, false))
  | _ => none
 | .idxa agg n sz x i => match ev x, ev i with
  | .agg cs, .int _ j => if n <= 16 then zar agg sz cs j h K n 0 else qxv P nx ev h (.idxa agg n sz x i) K
  | _, _ => none
 | .aaddr n sz x i => match ev i with
  | .int _ j => if n <= 16 then zav (zdB sz (ev x) h K) j n 0 else qxv P nx ev h (.aaddr n sz x i) K
  | _ => none
 | .call f args => qQG P cK h nx f (args.map ev) K
 | .callv fv args => match ev fv with
  | .fn (.func f) cap => qQG P cK h nx f (args.map ev ++ cap) K
  | _ => none
 | .invk tbl x args => match ev x with
  | .iface t v => match qWY tbl t with
   | some f => qQG P cK h nx f (v :: args.map ev) K
   | none => none
  | _ => none
 | io => qxv P nx ev h io K
def q8w (e : Env) (g : Option (Nat × Bool)) (K : Env -> Bool -> Option R) : Option R := match g with
 | none => K e true
 | some (t, want) => match qgH e t with
  | .bool b => br b (K (q8K e t (.bool true)) want) (K (q8K e t (.bool false)) (!want))
  | .tup [] => K e false
  | _ => none
def q4H (P : Prog) (cK : qtz R) (nx : Nat) (o : IOper) (e : Env) (h : qaA) (K : Env -> Step -> Option R) : Option R :=
 q8w e o.guard fun e b => match b with
  | false => K e .skip
  | true => match qeP qdu h (qZk e o.op) [] with
   | none => none
   | some r => opK P cK nx (qaT e) (sub h r) o.op fun x => match x with
    | (.ret v, out, w) => K e (.did r w v out)
    | (.pan v, out, _) => K e (.pan r v out)
def sm {α : Type} (o : Option α) : Bool := match o with
 | some _ => true
 | none => false
def gv {α : Type} [Inhabited α] (o : Option α) : α := match o with
 | some x => x
 | none => default
@[simp] theorem sm_some {α : Type} (x : α) : sm (some x) = true := rfl
@[simp] theorem sm_none {α : Type} : sm (none : Option α) = false := rfl
@[simp] theorem gv_some {α : Type} [Inhabited α] (x : α) : gv (some x) = x := rfl
theorem q4G {α : Type} [Inhabited α] {o : Option α} (h : sm o = true) : o = some (gv o) := by cases o <;> first | rfl | cases h
def frcA : AV -> (AV -> Option R) -> Option R
 | .int k n, K => K (.int k n)
 | .bool b, K => K (.bool b)
 | .str s, K => K (.str s)
 | .nilp, K => K .nilp
 | .nilm, K => K .nilm
 | .nilf, K => K .nilf
 | .nili, K => K .nili
 | .nils ⟨n, .nil⟩, K => K (.nils ⟨n, .nil⟩)
 | .nils ⟨n, .any⟩, K => K (.nils ⟨n, .any⟩)
 | .nils ⟨n, .non⟩, K => K (.nils ⟨n, .non⟩)
 | .agg cs, K => frcL cs fun cs => K (.agg cs)
 | .tup cs, K => frcL cs fun cs => K (.tup cs)
 | .view n es, K => K (.view n es)
 | .ptr cs, K => frcL cs fun cs => K (.ptr cs)
 | .own a b c, K => K (.own a b c)
 | .ref a b c, K => K (.ref a b c)
 | .mref a, K => K (.mref a)
 | .fn f cs, K => frcL cs fun cs => K (.fn f cs)
 | .iface t v, K => frcA v fun v => K (.iface t v)
 | .junk, K => K .junk
where frcL : List AV -> (List AV -> Option R) -> Option R
 | [], K => K []
 | v :: vs, K => frcA v fun v => frcL vs fun vs => K (v :: vs)
mutual
theorem qEW : ∀ (v : AV) (K : AV -> Option R), frcA v K = K v
 | .nils ⟨_, k⟩, K => by cases k <;> simp only [frcA]
 | .int .., K | .bool .., K | .str .., K | .nilp, K | .nilm, K | .nilf, K | .nili, K | .view .., K | .own .., K | .ref .., K | .mref _, K | .junk, K => by simp only [frcA]
 | .agg cs, K => by simp only [frcA]; exact qzp cs _
 | .tup cs, K => by simp only [frcA]; exact qzp cs _
 | .ptr cs, K => by simp only [frcA]; exact qzp cs _
 | .fn f cs, K => by simp only [frcA]; exact qzp cs _
 | .iface t v, K => by simp only [frcA]; exact qEW v _
theorem qzp : ∀ (vs : List AV) (K : List AV -> Option R), frcA.frcL vs K = K vs
 | [], K => by simp only [frcA.frcL]
 | v :: vs, K => by simp only [frcA.frcL]; rw [qEW v]; exact qzp vs _
end
def zbH : Blk -> (Blk -> Option R) -> Option R
 | .box cs true, K => frcA.frcL cs fun cs => K (.box cs true)
 | .box cs false, K => frcA.frcL cs fun cs => K (.box cs false)
 | .arr sz es true, K => K (.arr sz es true)
 | .arr sz es false, K => K (.arr sz es false)
 | .mp kvs, K => K (.mp kvs)
theorem q6z (b : Blk) (K : Blk -> Option R) : zbH b K = K b := by
 cases b with
 | box cs fz => cases fz <;> simp only [zbH] <;> exact qzp _ _
 | arr sz es fz => cases fz <;> rfl
 | mp kvs => rfl
def zaj (n : Nat) (K : Nat -> Option R) : Option R := match n with
 | 0 => K 0
 | n + 1 => K (n + 1)
theorem qEY (n : Nat) (K : Nat -> Option R) : zaj n K = K n := by cases n <;> rfl
def zbd : qaA -> (qaA -> Option R) -> Option R
 | [], K => K []
 | (i, b) :: h, K => zaj i fun i => zbH b fun b => zbd h fun h => K ((i, b) :: h)
theorem q1n : ∀ (h : qaA) (K : qaA -> Option R), zbd h K = K h
 | [], K => rfl
 | (i, b) :: h, K => by simp only [zbd]; rw [qEY, q6z]; exact q1n h _
def q8D : Env -> (Env -> Option R) -> Option R
 | [], K => K []
 | (i, v) :: h, K => q8D h fun h => K ((i, v) :: h)
theorem qEX : ∀ (h : Env) (K : Env -> Option R), q8D h K = K h
 | [], K => rfl
 | (i, v) :: h, K => by simp only [q8D]; exact qEX h _
def qNe (P : Prog) (cK : qtz R) : List IOper -> Env -> qaA -> Nat -> (Env -> Option R) -> Option R
 | [], e, _, _, K => K e
 | o :: ops, e, h, nx, K => q4H P cK nx o e h fun e s => match s with
  | .skip => qNe P cK ops (qs7 o (qcL e o.dst .skip)) h (nx + 16) K
  | .did r w v out => match w, out.all (fun p => r.contains p.1) with
   | false, true => frcA v fun v => zaj (nx + 16) fun nx => q8D (qs7 o (qWf e o.dst v)) fun e => qNe P cK ops e h nx K
   | _, _ => none
  | .pan _ _ _ => none
def qLs (t : Nat) : List IOper -> Option (List IOper × IOper × List IOper)
 | [] => none
 | o :: os => match o.op with
  | .pick (.t c) _ _ => match Nat.beq c t with
   | true => some ([], o, os)
   | false => match qLs t os with
    | some (g, p, r) => some (o :: g, p, r)
    | none => none
  | _ => match qLs t os with
   | some (g, p, r) => some (o :: g, p, r)
   | none => none
def zbA : IOp -> Bool
 | .bslice .. | .app .. | .store .. | .mupd .. | .mdel .. | .clr .. | .alloc .. | .box .. | .mkm | .mks .. | .pan .. => false
 | _ => true
def within (c d : Nat) (o : IOper) : Bool := (match o.dst with
 | some j => Nat.blt c j && Nat.blt j d
 | none => false) && zbA o.op && match o.op with
 | .pick (.t k) _ _ => Nat.ble c k
 | _ => true
def zaq (o : IOper) (ops : List IOper) : Option (Nat × Nat × List IOper × IOper × List IOper) := match o.guard with
 | none => none
 | some (t, _) => match qLs t ops with
  | none => none
  | some (g, p, r) => match p.guard, p.dst with
   | none, some d => match (o :: g).all (within t d) with
    | true => some (t, d, o :: g, p, r)
    | false => none
   | _, _ => none
def q34 (d : Nat) (e : Env) : Option Bool := match qgH e d with
 | .bool b => some b
 | _ => none
def q8a (P : Prog) (cK : (R : Type) -> qtz R) : Nat -> List IOper -> Env -> qaA -> Nat -> (X -> Env -> qaA -> Option R) -> Option R
 | 0, _, _, _, _, _ => none
 | _ + 1, [], e, h, _, K => K .normal e h
 | n + 1, o :: ops, e, h, nx, K => match zaq o ops with
  | some (t, d, g, p, rest) =>
   let v := qNe P (cK Bool) g e h nx fun e1 => qNe P (cK Bool) [p] e1 h (nx + 16 * g.length) (q34 d)
   br (sm v) (zaj (nx + 16 * (g.length + 1)) fun nx => q8D (qh0 t d e) fun e => q8a P cK n rest ((d, .bool (gv v)) :: e) h nx K) none
  | none => q4H P (cK R) nx o e h fun e s => match s with
   | .pan r v out => K (.pan v) e (qbn h (.pan r v out))
   | .skip => q8a P cK n ops (qs7 o (qcL e o.dst .skip)) h (nx + 16) K
   | .did r w v out => frcA v fun v => zbd (qbn h (.did r w v out)) fun h => zaj (nx + 16) fun nx => q8D (qs7 o (qWf e o.dst v)) fun e => q8a P cK n ops e h nx K
def q94 (P : Prog) (cK : qtz R) (base : Nat) : Nat -> List IOper -> Env -> qaA -> List Step -> (Env -> qaA -> List Step -> Option R) -> Option R
 | _, [], e, h, log, K => K e h log
 | i, o :: ops, e, h, log, K => q4H P cK (base + 16 * i) o e h fun e s =>
  if tidy (base + 16 * i) (qfY e o) h s then match lost h (qfY e o) s with
   | [] => q94 P cK base (i + 1) ops (qcL e o.dst s) (qbn h s) (log ++ [s]) K
   | q :: g => q94 P cK base (i + 1) ops (qcL e o.dst s) (qbn h s) (log ++ [mark (q :: g) s]) K
  else none
def qvv (P : Prog) (cK : (R : Type) -> qtz R) (lK : qYJ R) : ICode -> St -> (X -> St -> Option R) -> Option R
 | .skip, s, K => K .normal s
 | .region ops d, s, K => match d with
  | none => q8a P cK (ops.length + 1) ops s.tm s.hp s.nx fun x e h => K x ⟨e, h, s.nx + 16 * ops.length, s.k⟩
  | some befs => q94 P (cK R) s.nx 0 ops s.tm s.hp [] fun e h log => if calm s.nx befs ops e log then K .normal ⟨e, h, s.nx + 16 * ops.length, s.k⟩ else none
 | .seq a b, s, K => qvv P cK lK a s fun x s => match x with
  | .normal => qvv P cK lK b s K
  | x => K x s
 | .cond c a b, s, K => match qaT s.tm c with
  | .bool t => br t (qvv P cK lK a s K) (qvv P cK lK b s K)
  | _ => none
 | .block id c, s, K => qvv P cK lK c s fun x s => match x with
  | .exit j => if j = id then K .normal s else K (.exit j) s
  | x => K x s
 | .loop k c, s, K => lK k c s K
 | .exit id, s, K => K (.exit id) s
 | .ret, s, K => K .ret s
def qMb (call : qdr) (cK : qtz R) : Prop := ∀ f a h K ρ, cK f a h K = some ρ -> ∃ r h', call f a h = some (r, h') /\ K r h' = some ρ
def qMf (loop : qs4) (lK : qYJ R) : ICode -> Prop
 | .seq a b => qMf loop lK a /\ qMf loop lK b
 | .cond _ a b => qMf loop lK a /\ qMf loop lK b
 | .block _ a => qMf loop lK a
 | .loop k c => ∀ s K ρ, lK k c s K = some ρ -> ∃ x s', loop k c s = some (x, s') /\ K x s' = some ρ
 | _ => True
def loops : ICode -> List (List Nat × ICode)
 | .seq a b => loops a ++ loops b
 | .cond _ a b => loops a ++ loops b
 | .block _ a => loops a
 | .loop k c => (k, c) :: loops c
 | _ => []
def qaf (F : Fun) (i : Nat) : List Nat × ICode := (loops F.body).getD i ([], .skip)
variable {P : Prog} {call : qdr} {cK : qtz R} {loop : qs4} {lK : qYJ R}
theorem qrn (hc : qMb call cK) {h : qaA} {nx f : Nat} {args : List AV} {K : Res × qaA × Bool -> Option R} {ρ : R} (hs : qQG P cK h nx f args K = some ρ) : ∃ r, qrm P call h nx f args = some r /\ K r = some ρ := by
 simp only [qQG] at hs
 obtain ⟨args', roots, hp, hs⟩ := qm7 hs
 split at hs
 ·rename_i moved shwn h1 h2
  split at hs
  ·rename_i hd
   obtain ⟨r, h', hcl, hK⟩ := hc _ _ _ _ _ hs
   split at hK
   ·rename_i hall
    refine ⟨_, ?_, hK⟩
    simp only [qrm, hp, h1, h2, hd, if_true, hcl, hall]
   ·cases hK
  ·cases hs
 ·cases hs
theorem q1W (call : qdr) : LeC q1V call := fun f a h r hr => by simp [q1V] at hr
theorem qL4 {K : Res × qaA × Bool -> Option R} {ρ : R} : ∀ {l : List Alt}, zdx K l = some ρ -> ∃ r, (true, r) ∈ l /\ K r = some ρ
 | [], h => by cases h
 | (b, r) :: l, h => by
  cases b with
  | true => exact ⟨r, by simp, h⟩
  | false =>
   obtain ⟨r', h1, h2⟩ := qL4 (l := l) h
   exact ⟨r', by simp [h1], h2⟩
theorem qdd {nx : Nat} {ev : Opd -> AV} {h : qaA} {io : IOp} {K : Res × qaA × Bool -> Option R} {ρ : R} (hs : qxv P nx ev h io K = some ρ) : ∃ r, opS P call nx ev h io = some r /\ K r = some ρ := by
 simp only [qxv] at hs
 split at hs
 ·split at hs
  ·rename_i r hr; exact ⟨r, qNc (q1W call) hr, hs⟩
  ·cases hs
 ·obtain ⟨r, h1, h2⟩ := qL4 hs
  exact ⟨r, q56 h1, h2⟩
theorem q72 {es : List AV} {i : Int} {ag : Bool} {ks : List CS} {K : List AV -> Option R} {ρ : R} (hs : br (okE ag ks es i) (qLL es i 0 ks K) none = some ρ) : ∃ e, qiM es i = some e /\ K (qao e) = some ρ /\ ∀ cs, elemOf e cs = qVX ag cs := by
 obtain ⟨hok, hs⟩ := qo6 hs
 obtain ⟨e, he, hk, hel⟩ := zaR hok
 have := qF1 he ks 0 (K := K) (by simpa using hk)
 rw [this] at hs
 exact ⟨e, he, by simpa using hs, hel⟩
theorem qYR {e : AV} {ag : Bool} (h : ∀ cs, elemOf e cs = qVX ag cs) : qVX ag (qao e) = e := by
 rw [<- h]
 cases e <;> rfl
theorem q1o {h : qaA} {r : List Nat} {id sz sz2 : Nat} {es es2 : List AV} {f1 f2 : Bool} (hl : qap h id = some (.arr sz es f1)) (h2 : qap (freeze h r) id = some (.arr sz2 es2 f2)) : sz = sz2 := by
 have : Globs := ⟨fun _ => none⟩
 rw [qfi] at h2
 split at h2
 ·rw [hl] at h2; simp [quP] at h2; exact h2.1
 ·rw [hl] at h2; simp at h2; exact h2.1
theorem q4I {h h' : qaA} {v v' : AV} {id sz sz2 : Nat} {es es2 : List AV} {f1 f2 : Bool} (hl : qap h id = some (.arr sz es f1)) (hst : still h v = some (v', h')) (h2 : qap h' id = some (.arr sz2 es2 f2)) : sz = sz2 := by
 simp only [still] at hst
 split at hst
 ·simp at hst
  obtain ⟨_, rfl⟩ := hst
  rw [hl] at h2; simp at h2; exact h2.1
 ·split at hst
  ·simp at hst
   obtain ⟨_, rfl⟩ := hst
   exact q1o hl h2
  ·cases hst
theorem qLt {agg : Bool} {sz : Nat} {cs : List AV} {j : Int} {h : qaA} {K : Res × qaA × Bool -> Option R} {ρ : R} : ∀ {r k : Nat}, zar agg sz cs j h K r k = some ρ -> ∃ q v, j = Int.ofNat q /\ q < k + r /\ q * sz <= cs.length /\ part agg sz (cs.drop (q * sz)) = some v /\ K (.ret v, h, false) = some ρ
 | 0, k, hs => by simp [zar] at hs
 | r + 1, k, hs => by
  simp only [zar] at hs
  by_cases hj : j = Int.ofNat k
  ·have hd : decide (j = Int.ofNat k) = true := by simpa using hj
   rw [hd] at hs
   simp only [br] at hs
   split at hs
   ·rename_i hle
    split at hs
    ·rename_i v hv
     exact ⟨k, v, hj, by omega, hle, hv, hs⟩
    ·cases hs
   ·cases hs
  ·have hd : decide (j = Int.ofNat k) = false := by simpa using hj
   rw [hd] at hs
   simp only [br] at hs
   obtain ⟨q, v, h1, h2, h3⟩ := qLt hs
   exact ⟨q, v, h1, by omega, h3⟩
theorem qLD {F : Nat -> Option R} {j : Int} {ρ : R} : ∀ {r k : Nat}, zav F j r k = some ρ -> ∃ q, j = Int.ofNat q /\ q < k + r /\ F q = some ρ
 | 0, k, hs => by simp [zav] at hs
 | r + 1, k, hs => by
  simp only [zav] at hs
  by_cases hj : j = Int.ofNat k
  ·have hd : decide (j = Int.ofNat k) = true := by simpa using hj
   rw [hd] at hs
   exact ⟨k, hj, by omega, hs⟩
  ·have hd : decide (j = Int.ofNat k) = false := by simpa using hj
   rw [hd] at hs
   obtain ⟨q, h1, h2, h3⟩ := qLD (k := k + 1) hs
   exact ⟨q, h1, by omega, h3⟩
theorem q19 (hc : qMb call cK) {nx : Nat} {ev : Opd -> AV} {h : qaA} {io : IOp} {K : Res × qaA × Bool -> Option R} {ρ : R} (hs : opK P cK nx ev h io K = some ρ) : ∃ r, opS P call nx ev h io = some r /\ K r = some ρ := by
 cases io <;> simp only [opK] at hs
 case idxa agg n sz x i =>
  split at hs
  ·rename_i cs k j h1 h2
   split at hs
   ·obtain ⟨q, v, rfl, hq, hle, hv, hs⟩ := qLt hs
    refine ⟨_, ?_, hs⟩
    have e1 : (0 : Int) <= Int.ofNat q := Int.natCast_nonneg q
    have e2 : Int.ofNat q < (n : Int) := by show (q : Int) < (n : Int); omega
    have e3 : (Int.ofNat q).toNat = q := rfl
    simp only [opS, h1, h2, e3]
    rw [if_pos ⟨e1, e2, hle⟩, hv]
    rfl
   ·exact qdd hs
  ·cases hs
 case aaddr n sz x i =>
  split at hs
  ·rename_i k j h2
   split at hs
   ·obtain ⟨q, rfl, hq, hs⟩ := qLD hs
    have e1 : (0 : Int) <= Int.ofNat q := Int.natCast_nonneg q
    have e2 : Int.ofNat q < (n : Int) := by show (q : Int) < (n : Int); omega
    have e3 : (Int.ofNat q).toNat = q := rfl
    unfold zdB at hs
    split at hs
    ·rename_i cs h1
     split at hs
     ·rename_i hle
      refine ⟨_, ?_, hs⟩
      simp only [opS, h1, h2, e3]
      rw [if_pos ⟨e1, e2⟩, if_pos hle]; rfl
     ·cases hs
    ·rename_i id idx o h1
     refine ⟨_, ?_, hs⟩
     simp only [opS, h1, h2, e3]
     rw [if_pos ⟨e1, e2⟩]; rfl
    ·cases hs
   ·exact qdd hs
  ·cases hs
 case iaddr sz ks x i =>
  split at hs
  ·rename_i c ks' sz' es k j h1 h2
   split at hs
   ·rename_i hsz
    obtain ⟨hok, hs⟩ := qo6 hs
    simp only [qay] at hok
    split at hok
    ·rename_i e he
     have := qF1 he _ 0 (K := fun cs => K (.ret (.ptr cs), h, false)) (by simpa using hok)
     rw [this] at hs
     refine ⟨_, ?_, hs⟩
     simp [opS, h1, h2, he, hsz, val]
    ·cases hok
   ·cases hs
  ·exact qdd hs
 case load agg n ks x =>
  split at hs
  ·rename_i id idx off hx
   split at hs
   ·rename_i sz es fz hl
    split at hs
    ·rename_i hcd
     obtain ⟨hk, hn, ha⟩ := hcd
     obtain ⟨hok, hs⟩ := qo6 hs
     simp only [okP] at hok
     split at hok
     ·rename_i e he
      rw [qYd he ks off hok] at hs
      have hlen := qYb hok
      have hle : ks.length <= ((qao e).drop off).length := by
       rw [List.length_take] at hlen; omega
      refine ⟨_, ?_, hs⟩
      have hoff : off <= (qao e).length := by rw [List.length_drop] at hle; omega
      simp only [opS, hx, qDG, hl, he, if_pos hoff, qTS, part]
      cases agg with
      | true =>
       simp only [if_true]
       rw [if_pos (by omega), hk]
      | false =>
       have h1 : n = 1 := by simpa using ha
       subst h1
       simp only [Bool.false_eq_true, if_false, hk]
       cases hd : (qao e).drop off with
       | nil => rw [hd] at hle; simp only [List.length_nil] at hle; omega
       | cons y ys => simp
     ·cases hok
    ·cases hs
   ·exact qdd hs
  ·exact qdd hs
 case store n x v =>
  split at hs
  ·rename_i id idx off hx
   split at hs
   ·rename_i sz es hl
    obtain ⟨v', h', hst, hs⟩ := qTy hs
    split at hs
    ·rename_i sz2 es2 hl2
     split at hs
     ·rename_i hcd
      obtain ⟨hok, hs⟩ := qo6 hs
      simp only [okS] at hok
      split at hok
      ·rename_i e he
       refine ⟨_, ?_, hs⟩
       have hsz : sz = sz2 := q4I hl hst hl2
       simp only [opS, hx, q2Q, hl, hst, hl2, he]
       rw [if_pos ⟨hcd.1, of_decide_eq_true hok, hcd.2⟩]
       simp only [qfu, he, hsz]
      ·cases hok
     ·cases hs
    ·cases hs
   ·exact qdd hs
  ·exact qdd hs
 case look ks z ok m k =>
  split at hs
  ·rename_i id hx
   split at hs
   ·rename_i kvs hl
    split at hs
    ·rename_i ag cs hz
     cases hh : qre ks kvs (ev k) with
     | true =>
      rw [hh] at hs
      simp only [br] at hs
      obtain ⟨e, he, hs, hel⟩ := q72 hs
      have he' : qcK ks kvs (ev k) = e := by simpa [qiM] using he
      simp only [qre, Bool.and_eq_true] at hh
      obtain ⟨h1, h2⟩ := hh
      split at h2
      ·rename_i v hv
       simp only [qcK, hv] at he'
       subst he'
       refine ⟨_, ?_, hs⟩
       simp only [opS, hx, hl, h1, if_true, hv, qYR hel, val]
      ·cases h2
     | false =>
      rw [hh] at hs
      obtain ⟨h1, hs⟩ := qo6 hs
      simp only [qrf, Bool.and_eq_true] at h1
      obtain ⟨h1, h2⟩ := h1
      split at h2
      ·rename_i hv
       refine ⟨_, ?_, hs⟩
       simp only [opS, hx, hl, h1, if_true, hv, val]
      ·cases h2
    ·exact qdd hs
   ·exact qdd hs
  ·exact qdd hs
 case pick c a b =>
  split at hs
  ·rename_i t ht
   cases t
   ·exact ⟨_, by simp [opS, ht, val], hs⟩
   ·exact ⟨_, by simp [opS, ht, val], hs⟩
  ·cases hs
 case call f args => exact qrn hc hs
 case callv fv args =>
  split at hs
  ·rename_i f cap hf
   obtain ⟨r, h1, h2⟩ := qrn hc hs
   exact ⟨r, by simp only [opS, hf]; exact h1, h2⟩
  ·cases hs
 case invk tbl x args =>
  split at hs
  ·rename_i t v hf
   split at hs
   ·rename_i f hq
    obtain ⟨r, h1, h2⟩ := qrn hc hs
    exact ⟨r, by simp only [opS, hf, hq]; exact h1, h2⟩
   ·cases hs
  ·cases hs
 all_goals exact qdd hs
theorem qW2 {e : Env} {g : Option (Nat × Bool)} {K : Env -> Bool -> Option R} {ρ : R} (hs : q8w e g K = some ρ) : ∃ b, qvh e g = some b /\ K e b = some ρ := by
 cases g with
 | none => exact ⟨true, rfl, hs⟩
 | some tw =>
  obtain ⟨t, want⟩ := tw
  simp only [q8w] at hs
  split at hs
  ·rename_i b hb
   have hset : q8K e t (.bool b) = e := qTF hb (by simp)
   cases b with
   | true =>
    simp only [br] at hs
    rw [hset] at hs
    exact ⟨want, by simp [qvh, hb], hs⟩
   | false =>
    simp only [br] at hs
    rw [hset] at hs
    exact ⟨!want, by cases want <;> simp [qvh, hb], hs⟩
  ·rename_i hb
   exact ⟨false, by simp [qvh, hb], hs⟩
  ·cases hs
theorem qpS (hc : qMb call cK) {nx : Nat} {o : IOper} {e : Env} {h : qaA} {K : Env -> Step -> Option R} {ρ : R} (hs : q4H P cK nx o e h K = some ρ) : ∃ s, qhx P call nx o e h = some s /\ K e s = some ρ := by
 obtain ⟨b, hw, hs⟩ := qW2 hs
 cases b with
 | false => exact ⟨.skip, by simp [qhx, hw], hs⟩
 | true =>
  simp only at hs
  split at hs
  ·cases hs
  ·rename_i r hr
   obtain ⟨⟨x, out, w⟩, h1, h2⟩ := q19 hc hs
   cases x with
   | ret v => exact ⟨.did r w v out, by simp only [qhx, hw, hr, h1], h2⟩
   | pan v => exact ⟨.pan r v out, by simp only [qhx, hw, hr, h1], h2⟩
theorem qQT {c d t : Nat} {v : AV} {e : Env} (h : (Nat.blt c t && Nat.blt t d) = true) : qh0 c d (qWf e (some t) v) = qh0 c d e := by
 simp only [qWf, qh0, h]
theorem qsN {c d c' d' : Nat} (hc : c <= c') (hd : d' <= d) : ∀ e : Env, qh0 c d (qh0 c' d' e) = qh0 c d e
 | [] => rfl
 | (j, v) :: e => by
  by_cases h : (Nat.blt c' j && Nat.blt j d') = true
  ·have h2 : (Nat.blt c j && Nat.blt j d) = true := by
    simp only [Bool.and_eq_true, Nat.blt_eq] at h ⊢
    omega
   simp only [qh0, h, h2]
   exact qsN hc hd e
  ·have h1 : (Nat.blt c' j && Nat.blt j d') = false := by cases hq : (Nat.blt c' j && Nat.blt j d') <;> first | rfl | exact absurd hq h
   simp only [qh0, h1]
   by_cases h2 : (Nat.blt c j && Nat.blt j d) = true
   ·simp only [h2]; exact qsN hc hd e
   ·have h3 : (Nat.blt c j && Nat.blt j d) = false := by cases hq : (Nat.blt c j && Nat.blt j d) <;> first | rfl | exact absurd hq h2
    simp only [h3, qsN hc hd e]
theorem qJI {c d : Nat} {o : IOper} (h : within c d o = true) (e : Env) (s : Step) (hs : ∀ r v out, s ≠ .pan r v out) : qh0 c d (qs7 o (qcL e o.dst s)) = qh0 c d e := by
 obtain ⟨dst, op, g⟩ := o
 simp only [within, Bool.and_eq_true] at h
 obtain ⟨⟨h1, _⟩, h2⟩ := h
 cases dst with
 | none => cases h1
 | some j =>
  simp only at h1
  have qft : qh0 c d (qcL e (some j) s) = qh0 c d e := by
   cases s with
   | skip => exact qQT h1
   | did r w v out => exact qQT h1
   | pan r v out => exact absurd rfl (hs r v out)
  by_cases hp : ∃ k a b, op = .pick (.t k) a b
  ·obtain ⟨k, a, b, rfl⟩ := hp
   simp only at h2
   simp only [qs7]
   rw [qsN (Nat.le_of_ble_eq_true h2) (by
    have := (Bool.and_eq_true _ _ ▸ h1).2
    simp only [Nat.blt_eq] at this
    omega), qft]
  ·have : ∀ e2, qs7 ⟨some j, op, g⟩ e2 = e2 := by
    intro e2
    simp only [qs7]
    split
    ·exact absurd ⟨_, _, _, rfl⟩ hp
    ·rfl
   rw [this]; exact qft
theorem qM6 {r : List Nat} : ∀ {out : qaA}, out.all (fun p => r.contains p.1) = true -> news r out = []
 | [], _ => rfl
 | (i, b) :: h, hs => by
  simp only [List.all_cons, Bool.and_eq_true] at hs
  simp only [news, hs.1, if_true, qM6 hs.2]
theorem qLj {e : Env} {dst : Option Nat} {r : List Nat} {w : Bool} {v : AV} {out : qaA} : qcL e dst (.did r w v out) = qWf e dst v := rfl
theorem qu6 (hc : qMb call cK) {c d : Nat} : ∀ {ops : List IOper} {e : Env} {h : qaA} {nx : Nat} {K : Env -> Option R} {ρ : R}, qNe P cK ops e h nx K = some ρ -> ∀ log, ∃ e' log', K e' = some ρ /\
  (ops.all (within c d) = true -> qh0 c d e' = qh0 c d e) /\ ∀ more (out : Option (X × Env × qaA × List Step)), qg3 P call more e' h (nx + 16 * ops.length) log' = out -> qg3 P call (ops ++ more) e h nx log = out
 | [], e, h, nx, K, ρ, hs, log => ⟨e, log, hs, fun _ => rfl, fun more out ho => by simpa using ho⟩
 | o :: ops, e, h, nx, K, ρ, hs, log => by
  simp only [qNe] at hs
  obtain ⟨s, h1, h2⟩ := qpS hc hs
  cases s with
  | pan r v out => cases h2
  | skip =>
   obtain ⟨e', log', h3, h4, h5⟩ := qu6 (c := c) (d := d) hc h2 (log ++ [.skip])
   refine ⟨e', log', h3, fun ha => ?_, fun more out ho => ?_⟩
   ·simp only [List.all_cons, Bool.and_eq_true] at ha
    rw [h4 ha.2, qJI ha.1 _ _ (fun _ _ _ h => by cases h)]
   ·simp only [List.cons_append, qg3, h1]
    refine h5 more out ?_
    rw [<- ho]; congr 1; simp; omega
  | did r w v out0 =>
   simp only at h2
   split at h2
   ·rename_i hall
    rw [qEW, qEY, qEX] at h2
    obtain ⟨e', log', h3, h4, h5⟩ := qu6 (c := c) (d := d) hc h2 (log ++ [.did r false v out0])
    refine ⟨e', log', h3, fun ha => ?_, fun more out ho => ?_⟩
    ·simp only [List.all_cons, Bool.and_eq_true] at ha
     rw [h4 ha.2, <- qLj (r := r) (w := false) (out := out0), qJI ha.1 _ _ (fun _ _ _ h => by cases h)]
    ·simp only [List.cons_append, qg3, h1]
     have hh : qbn h (.did r false v out0) = h := by simp [qbn, qM6 hall]
     rw [hh]
     refine h5 more out ?_
     rw [<- ho]; congr 1; simp; omega
   ·cases h2
theorem qE0 {t : Nat} : ∀ {os g r : List IOper} {p : IOper}, qLs t os = some (g, p, r) -> os = g ++ p :: r /\ ∃ a b, p.op = .pick (.t t) a b
 | [], g, r, p, h => by simp [qLs] at h
 | o :: os, g, r, p, h => by
  simp only [qLs] at h
  split at h
  ·rename_i c a b ho
   split at h
   ·rename_i hb
    cases h
    have : c = t := Nat.eq_of_beq_eq_true hb
    subst this
    exact ⟨rfl, a, b, ho⟩
   ·split at h
    ·rename_i q
     cases h
     obtain ⟨h1, h2⟩ := qE0 q
     exact ⟨by rw [h1]; rfl, h2⟩
    ·cases h
  ·split at h
   ·rename_i q
    cases h
    obtain ⟨h1, h2⟩ := qE0 q
    exact ⟨by rw [h1]; rfl, h2⟩
   ·cases h
theorem qsV {cK : (R : Type) -> qtz R} (hc : ∀ R, qMb call (cK R)) : ∀ {n : Nat} {ops : List IOper} {e : Env} {h : qaA} {nx : Nat} {K : X -> Env -> qaA -> Option R} {ρ : R}, q8a P cK n ops e h nx K = some ρ -> ∀ log, ∃ x e' h' log', qg3 P call ops e h nx log = some (x, e', h', log') /\ K x e' h' = some ρ
 | 0, ops, e, h, nx, K, ρ, hs, log => by simp [q8a] at hs
 | n + 1, [], e, h, nx, K, ρ, hs, log => ⟨_, _, _, _, rfl, hs⟩
 | n + 1, o :: ops, e, h, nx, K, ρ, hs, log => by
  simp only [q8a] at hs
  split at hs
  ·rename_i t d g p rest hg
   obtain ⟨hb, hs⟩ := qo6 hs
   rw [qEY, qEX] at hs
   simp only [zaq] at hg
   split at hg
   ·cases hg
   ·split at hg
    ·cases hg
    ·rename_i g0 p0 r0 he
     split at hg
     ·rename_i hpg hpd
      split at hg
      ·rename_i hall
       cases hg
       obtain ⟨hops, a, b, hpo⟩ := qE0 he
       have hv := q4G hb
       generalize gv (qNe P (cK Bool) (o :: g0) e h nx fun e1 => qNe P (cK Bool) [p] e1 h (nx + 16 * (o :: g0).length) (q34 d)) = bv at hv hs
       obtain ⟨e1, log1, h3, h4, h5⟩ := qu6 (c := t) (d := d) (hc Bool) hv log
       have hkill := h4 hall
       simp only [qNe] at h3
       obtain ⟨s, k1, k2⟩ := qpS (hc Bool) h3
       have htrim : ∀ e2, qs7 p e2 = qh0 t d e2 := fun e2 => by unfold qs7; rw [hpo, hpd]
       have hself : ∀ (v : AV) (e2 : Env), qh0 t d ((d, v) :: e2) = (d, v) :: qh0 t d e2 := fun v e2 => by
        have hb : (Nat.blt t d && Nat.blt d d) = false := by
         have : Nat.blt d d = false := by
          cases hq : Nat.blt d d with
          | false => rfl
          | true => exact absurd (Nat.blt_eq ▸ hq) (Nat.lt_irrefl d)
         rw [this, Bool.and_false]
        simp only [qh0, hb]
       cases s with
       | pan r v out => cases k2
       | skip =>
        exfalso
        rw [htrim, hpd, show qcL e1 (some d) Step.skip = (d, unit) :: e1 from rfl, hself] at k2
        simp [q34, qgH, unit] at k2
       | did r w v out =>
        simp only at k2
        split at k2
        ·rename_i hall2
         rw [qEW, qEY, qEX, htrim, hpd, show qWf e1 (some d) v = (d, v) :: e1 from rfl, hself] at k2
         simp only [q34, qgH, if_true] at k2
         split at k2
         ·rename_i b0
          cases k2
          have hh : qbn h (.did r false (.bool bv) out) = h := by simp [qbn, qM6 hall2]
          obtain ⟨x, e', h', log', q1, q2⟩ := qsV hc hs (log1 ++ [.did r false (.bool bv) out])
          refine ⟨x, e', h', log', ?_, q2⟩
          have hsplit : o :: ops = (o :: g0) ++ p :: rest := by rw [hops]; rfl
          rw [hsplit]
          refine h5 (p :: rest) _ ?_
          simp only [qg3, k1, hh]
          rw [htrim, qLj, hpd, show qWf e1 (some d) (AV.bool bv) = (d, .bool bv) :: e1 from rfl, hself, hkill]
          rw [<- q1]; congr 1
         ·cases k2
        ·cases k2
      ·cases hg
     ·cases hg
  ·obtain ⟨s, h1, h2⟩ := qpS (hc R) hs
   simp only [qg3, h1]
   cases s with
   | pan r v out => exact ⟨_, _, _, _, rfl, h2⟩
   | skip => exact qsV hc h2 _
   | did r w v out =>
    simp only at h2
    rw [qEW, q1n, qEY, qEX] at h2
    exact qsV hc h2 _
theorem qxn (hc : qMb call cK) {base : Nat} : ∀ {ops : List IOper} {i : Nat} {e : Env} {h : qaA} {log : List Step} {K : Env -> qaA -> List Step -> Option R} {ρ : R}, q94 P cK base i ops e h log K = some ρ -> ∃ e' h' log', qm9 P call base i ops e h log = some (e', h', log') /\ K e' h' log' = some ρ
 | [], i, e, h, log, K, ρ, hs => ⟨_, _, _, rfl, hs⟩
 | o :: ops, i, e, h, log, K, ρ, hs => by
  simp only [q94] at hs
  obtain ⟨s, h1, h2⟩ := qpS hc hs
  split at h2
  ·rename_i ht
   split at h2
   ·rename_i hl
    obtain ⟨e', h', log', h3, h4⟩ := qxn hc h2
    exact ⟨e', h', log', by simp only [qm9, h1, ht, if_true, hl]; exact h3, h4⟩
   ·rename_i q g hl
    obtain ⟨e', h', log', h3, h4⟩ := qxn hc h2
    exact ⟨e', h', log', by simp only [qm9, h1, ht, if_true, hl]; exact h3, h4⟩
  ·cases h2
theorem qtW {cK : (R : Type) -> qtz R} (hc : ∀ R, qMb call (cK R)) : ∀ {c : ICode}, qMf loop lK c -> ∀ {s : St} {K : X -> St -> Option R} {ρ : R}, qvv P cK lK c s K = some ρ -> ∃ x s', qkk P call loop c s = some (x, s') /\ K x s' = some ρ := by
 intro c
 induction c with
 | skip => intro _ s K ρ h; exact ⟨_, _, rfl, h⟩
 | region ops d =>
  intro _ s K ρ h
  simp only [qvv] at h
  cases d with
  | none =>
   obtain ⟨x, e', h', log', h1, h2⟩ := qsV hc h []
   exact ⟨x, _, by simp only [qkk, qdH, h1], h2⟩
  | some befs =>
   obtain ⟨e', h', log', h1, h2⟩ := qxn (hc R) h
   split at h2
   ·rename_i hcalm
    exact ⟨_, _, by simp only [qkk, qdH, h1, hcalm, if_true], h2⟩
   ·cases h2
 | seq a b iha ihb =>
  intro hl s K ρ h
  simp only [qvv] at h
  obtain ⟨x, s1, h1, h2⟩ := iha hl.1 h
  cases x with
  | normal =>
   obtain ⟨x2, s2, h3, h4⟩ := ihb hl.2 h2
   exact ⟨x2, s2, by simp only [qkk, h1]; exact h3, h4⟩
  | _ => exact ⟨_, _, by simp only [qkk, h1], h2⟩
 | cond c a b iha ihb =>
  intro hl s K ρ h
  simp only [qvv] at h
  split at h
  ·rename_i t ht
   cases t with
   | true =>
    obtain ⟨x, s1, h1, h2⟩ := iha hl.1 h
    exact ⟨x, s1, by simp only [qkk, ht]; exact h1, h2⟩
   | false =>
    obtain ⟨x, s1, h1, h2⟩ := ihb hl.2 h
    exact ⟨x, s1, by simp only [qkk, ht]; exact h1, h2⟩
  ·cases h
 | block id a ih =>
  intro hl s K ρ h
  simp only [qvv] at h
  obtain ⟨x, s1, h1, h2⟩ := ih hl h
  cases x with
  | exit j =>
   simp only at h2
   split at h2
   ·rename_i hj; exact ⟨_, _, by simp only [qkk, h1, hj, if_true], h2⟩
   ·rename_i hj; exact ⟨_, _, by simp only [qkk, h1, hj, if_false], h2⟩
  | _ => exact ⟨_, _, by simp only [qkk, h1], h2⟩
 | loop k a ih => intro hl s K ρ h; exact hl _ _ _ h
 | exit id => intro _ s K ρ h; exact ⟨_, _, rfl, h⟩
 | ret => intro _ s K ρ h; exact ⟨_, _, rfl, h⟩
def qX1 (P : Prog) (f k : Nat) (v : AV) (h : qaA) (K : AV -> qaA -> Option R) : Option R :=
 let rest (v : AV) (h : qaA) : Option R := match qeP qdu h (idsA v ++ brought h k) (List.range k) with
  | none => none
  | some r => K (ren (place r) v) (qsv (place r) (sub h r))
 if P.fresh f then rest v h else match idsA v with
  | [] => rest (nz v) h
  | ids => br (qgb h qdu v) (match qeP qdu h ids [] with
   | some r => rest (qJq h qdu v) (freeze h r)
   | none => none) none
theorem qsi {f k : Nat} {v : AV} {h : qaA} {K : AV -> qaA -> Option R} {ρ : R} (hs : qX1 P f k v h K = some ρ) : ∃ v' h', qMV P f k v h = some (v', h') /\ K v' h' = some ρ := by
 simp only [qX1] at hs
 split at hs
 ·rename_i hf
  split at hs
  ·cases hs
  ·rename_i r hr; exact ⟨_, _, by simp only [qMV, hf, if_true, hr], hs⟩
 ·rename_i hf
  split at hs
  ·rename_i hi
   split at hs
   ·cases hs
   ·rename_i r hr; exact ⟨_, _, by simp only [qMV, if_neg hf, still, hi, hr], hs⟩
  ·rename_i ids hi
   obtain ⟨hb, hs⟩ := qo6 hs
   split at hs
   ·rename_i r0 hr0
    split at hs
    ·cases hs
    ·rename_i r hr
     refine ⟨_, _, ?_, hs⟩
     simp only [qMV, if_neg hf, still, qJr _ _ hb, hr0, hr]
   ·cases hs
def qZO (P : Prog) (cK : (R : Type) -> qtz R) (lK : qYJ R) (f : Nat) (F : Fun) (args : List AV) (h : qaA) (K : Res -> qaA -> Option R) : Option R :=
 qvv P cK lK F.body ⟨params 0 args, h, h.length, h.length⟩ fun x s =>
  let fin (_ : Unit) : Option R := match qJh s F.results with
   | some vs => qX1 P f h.length (one vs) s.hp fun v h => K (.ret v) h
   | none => none
  match x with
  | .normal => fin ()
  | .ret => fin ()
  | .pan v => qX1 P f h.length v s.hp fun v h => K (.pan v) h
  | .exit _ => none
theorem qDD {cK : (R : Type) -> qtz R} (hc : ∀ R, qMb call (cK R)) {f : Nat} {F : Fun} (hl : qMf loop lK F.body) {args : List AV} {h : qaA} {K : Res -> qaA -> Option R} {ρ : R} (hs : qZO P cK lK f F args h K = some ρ) : ∃ r h', body P call loop f F args h = some (r, h') /\ K r h' = some ρ := by
 obtain ⟨x, s, h1, h2⟩ := qtW hc hl hs
 simp only [body, h1]
 cases x with
 | exit j => cases h2
 | pan v =>
  simp only at h2 ⊢
  obtain ⟨v', h', hv, h2⟩ := qsi h2
  exact ⟨_, _, by simp only [hv], h2⟩
 | normal =>
  simp only at h2 ⊢
  split at h2
  ·rename_i hv
   obtain ⟨v', h', hw, h2⟩ := qsi h2
   exact ⟨_, _, by simp only [hv, hw], h2⟩
  ·cases h2
 | ret =>
  simp only at h2 ⊢
  split at h2
  ·rename_i hv
   obtain ⟨v', h', hw, h2⟩ := qsi h2
   exact ⟨_, _, by simp only [hv, hw], h2⟩
  ·cases h2
def zdz (K : Res -> qaA -> Option R) : List (Bool × Res × qaA) -> Option R
 | [] => none
 | (b, r, h) :: l => br b (K r h) (zdz K l)
theorem qL6 {K : Res -> qaA -> Option R} {ρ : R} : ∀ {l : List (Bool × Res × qaA)}, zdz K l = some ρ -> ∃ r h, (true, r, h) ∈ l /\ K r h = some ρ
 | [], h => by cases h
 | (b, r, h) :: l, hs => by
  cases b with
  | true => exact ⟨r, h, by simp, hs⟩
  | false =>
   obtain ⟨r', h', h1, h2⟩ := qL6 (l := l) hs
   exact ⟨r', h', by simp [h1], h2⟩
def zdy (K : X -> St -> Option R) : List (Bool × X × St) -> Option R
 | [] => none
 | (b, x, s) :: l => br b (K x s) (zdy K l)
theorem qL5 {K : X -> St -> Option R} {ρ : R} : ∀ {l : List (Bool × X × St)}, zdy K l = some ρ -> ∃ x s, (true, x, s) ∈ l /\ K x s = some ρ
 | [], h => by cases h
 | (b, x, s) :: l, hs => by
  cases b with
  | true => exact ⟨x, s, by simp, hs⟩
  | false =>
   obtain ⟨x', s', h1, h2⟩ := qL5 (l := l) hs
   exact ⟨x', s', by simp [h1], h2⟩
end
end Go.Eng
namespace Go.Eng
theorem qLE {IP : Prog} {keep : List Nat} {c : ICode} {s s' : St} (h : norm (hk keep) s = norm (hk keep) s') {r : X × St} (hr : qu4 IP keep c s' = some r) : qu4 IP keep c s = some r := by
 obtain ⟨n, hn⟩ := qov.1 hr
 refine qov.2 ⟨n, ?_⟩
 cases n with
 | zero => simp [qaP] at hn
 | succ n => simp only [qaP] at hn ⊢; rw [h]; exact hn
@[simp] theorem br_true {R : Type} (x y : R) : br true x y = x := rfl
@[simp] theorem br_false {R : Type} (x y : R) : br false x y = y := rfl
theorem getD_some {α : Type} {l : List α} {i : Nat} {d : α} (h : i < l.length) : l[i]?.getD d = l[i] := by simp [h]
theorem qnh (n i : Nat) : inB n (i : Int) = decide (i < n) := by simp [inB]
end Go.Eng
namespace Go.Eng
inductive Rd (τ : Type) where
 | next (v : τ)
 | done (j : Nat)
inductive Rx (τ : Type) where
 | next (v : τ)
 | out (x : X) (s : St)
def qrR {τ : Type} (st : τ -> Option (Rd τ)) : Nat -> τ -> Option (Nat × τ)
 | 0, _ => none
 | n + 1, v => match st v with
  | some (.next v') => qrR st n v'
  | some (.done j) => some (j, v)
  | none => none
theorem qLw {τ : Type} {st : τ -> Option (Rd τ)} : ∀ {n : Nat} {v : τ} {r : Nat × τ}, qrR st n v = some r -> qrR st (n + 1) v = some r
 | 0, v, r, h => by simp [qrR] at h
 | n + 1, v, r, h => by
  simp only [qrR] at h ⊢
  cases hs : st v with
  | none => rw [hs] at h; cases h
  | some q =>
   rw [hs] at h
   cases q with
   | next v' => exact qLw h
   | done j => exact h
theorem qLv {τ : Type} {st : τ -> Option (Rd τ)} {n m : Nat} (hnm : n <= m) {v : τ} {r : Nat × τ} (h : qrR st n v = some r) : qrR st m v = some r := by
 induction hnm with
 | refl => exact h
 | step _ ih => exact qLw ih
open Classical in
noncomputable def qaq {τ : Type} (st : τ -> Option (Rd τ)) (v : τ) : Option (Nat × τ) :=
 if h : ∃ r n, qrR st n v = some r then some h.choose else none
theorem qlq {τ : Type} {st : τ -> Option (Rd τ)} {v : τ} {r : Nat × τ} : qaq st v = some r ↔ ∃ n, qrR st n v = some r := by
 unfold qaq
 split
 ·rename_i h
  obtain ⟨n, hn⟩ := h.choose_spec
  constructor
  ·intro hr; cases hr; exact ⟨n, hn⟩
  ·rintro ⟨m, hm⟩
   have h1 := qLv (Nat.le_max_left n m) hn
   have h2 := qLv (Nat.le_max_right n m) hm
   rw [h1] at h2; exact h2
 ·rename_i h
  constructor
  ·intro hr; cases hr
  ·rintro ⟨n, hn⟩; exact absurd ⟨r, n, hn⟩ h
theorem qLx {τ : Type} (st : τ -> Option (Rd τ)) (v : τ) : qaq st v = match st v with
  | some (.next v') => qaq st v'
  | some (.done j) => some (j, v)
  | none => none := by
 cases hs : st v with
 | none =>
  simp only
  cases hi : qaq st v with
  | none => rfl
  | some r =>
   obtain ⟨n, hn⟩ := qlq.1 hi
   cases n with
   | zero => simp [qrR] at hn
   | succ n => simp [qrR, hs] at hn
 | some q =>
  cases q with
  | done j => exact qlq.2 ⟨1, by simp [qrR, hs]⟩
  | next v' =>
   simp only
   cases hi : qaq st v' with
   | some r =>
    obtain ⟨n, hn⟩ := qlq.1 hi
    exact qlq.2 ⟨n + 1, by simp [qrR, hs, hn]⟩
   | none =>
    cases hj : qaq st v with
    | none => rfl
    | some r =>
     obtain ⟨n, hn⟩ := qlq.1 hj
     cases n with
     | zero => simp [qrR] at hn
     | succ n =>
      simp only [qrR, hs] at hn
      rw [qlq.2 ⟨n, hn⟩] at hi; cases hi
theorem qaw {τ : Type} {st : τ -> Option (Rd τ)} {v v' : τ} (h : st v = some (.next v')) : qaq st v = qaq st v' := by rw [qLx, h]
theorem qag {τ : Type} {st : τ -> Option (Rd τ)} {v : τ} {j : Nat} (h : st v = some (.done j)) : qaq st v = some (j, v) := by rw [qLx, h]
def q6u {τ : Type} (keep : List Nat) (dec : St -> Option τ) (x : X) (s : St) : Option (Rx τ) := match x with
 | .normal => match norm (hk keep) s with
  | some s => match dec s with
   | some v => some (.next v)
   | none => none
  | none => none
 | x => match q4B keep x s with
  | some (x, s) => some (.out x s)
  | none => none
def cv {τ : Type} (ex : Nat -> X × St) : Option (Rd τ) -> Option (Rx τ)
 | some (.next v) => some (.next v)
 | some (.done j) => some (.out (ex j).1 (ex j).2)
 | none => none
section
variable {IP : Prog} {τ : Type} {cK : (R : Type) -> qtz R} {lK : qYJ (Rx τ)} {keep : List Nat} {c : ICode}
end
def Told (IP : Prog) (keep : List Nat) (c : ICode) (g : St -> List (Bool × X × St)) : Prop :=
 (∀ s x s', (true, x, s') ∈ g s -> qu4 IP keep c s = some (x, s')) /\ ∀ s, g s ≠ [] -> norm (hk keep) s = some s
theorem qRc {IP : Prog} {keep : List Nat} {c : ICode} {g : St -> List (Bool × X × St)} (h : Told IP keep c g) {s s1 : St} (hn : norm (hk keep) s = some s1) {x : X} {s' : St} (hm : (true, x, s') ∈ g s1) : qu4 IP keep c s = some (x, s') :=
 qLE (by rw [hn, h.2 s1 (fun he => by rw [he] at hm; cases hm)]) (h.1 s1 x s' hm)
end Go.Eng
namespace Go.Eng
inductive Lf where
 | i (n : Int)
 | b (x : Bool)
 | s (s : List UInt8)
 | l (es : List AV)
 | n (k : Nat)
 | m (kvs : List (AV × AV))
inductive PA where
 | int (k : IntKind)
 | bool
 | str
 | nilp | nilm | nilf | nili | junk
 | nils (q : NilS)
 | agg (ps : List PA)
 | tup (ps : List PA)
 | view (sz : Nat)
 | ptr (ps : List PA)
 | own (id off : Nat)
 | ownn (id off : Nat)
 | ref (id idx off : Nat)
 | mref (id : Nat)
 | fn (f : FnId) (ps : List PA)
 | iface (t : Nat) (p : PA)
def q32 : Option (List Lf) -> Option (List Lf) -> Option (List Lf)
 | some a, some b => some (a ++ b)
 | _, _ => none
def mA : PA -> AV -> Option (List Lf)
 | .int k, .int k' n => if k' = k then some [.i n] else none
 | .bool, .bool x => some [.b x]
 | .str, .str x => some [.s x]
 | .nilp, .nilp => some []
 | .nilm, .nilm => some []
 | .nilf, .nilf => some []
 | .nili, .nili => some []
 | .junk, .junk => some []
 | .nils q, .nils q' => if q' = q then some [] else none
 | .agg ps, .agg cs => mAs ps cs
 | .tup ps, .tup cs => mAs ps cs
 | .view sz, .view sz' es => if sz' = sz then some [.l es] else none
 | .ptr ps, .ptr cs => mAs ps cs
 | .own id off, .own id' off' none => if id' = id /\ off' = off then some [] else none
 | .ownn id off, .own id' off' (some k) => if id' = id /\ off' = off then some [.n k] else none
 | .ref id idx off, .ref id' idx' off' => if id' = id /\ idx' = idx /\ off' = off then some [] else none
 | .mref id, .mref id' => if id' = id then some [] else none
 | .fn f ps, .fn f' cs => if f' = f then mAs ps cs else none
 | .iface t p, .iface t' v => if t' = t then mA p v else none
 | _, _ => none
where mAs : List PA -> List AV -> Option (List Lf)
 | [], [] => some []
 | p :: ps, v :: vs => q32 (mA p v) (mAs ps vs)
 | _, _ => none
def lfI : List Lf -> Int
 | .i n :: _ => n
 | _ => 0
def lfB : List Lf -> Bool
 | .b n :: _ => n
 | _ => false
def lfS : List Lf -> List UInt8
 | .s n :: _ => n
 | _ => []
def lfL : List Lf -> List AV
 | .l n :: _ => n
 | _ => []
def lfN : List Lf -> Nat
 | .n n :: _ => n
 | _ => 0
def lfM : List Lf -> List (AV × AV)
 | .m n :: _ => n
 | _ => []
def szA : PA -> Nat
 | .int _ | .bool | .str | .view _ | .ownn _ _ => 1
 | .agg ps | .tup ps | .ptr ps | .fn _ ps => szAs ps
 | .iface _ p => szA p
 | _ => 0
where szAs : List PA -> Nat
 | [] => 0
 | p :: ps => szA p + szAs ps
def fA : PA -> List Lf -> AV
 | .int k, ls => .int k (lfI ls)
 | .bool, ls => .bool (lfB ls)
 | .str, ls => .str (lfS ls)
 | .nilp, _ => .nilp
 | .nilm, _ => .nilm
 | .nilf, _ => .nilf
 | .nili, _ => .nili
 | .junk, _ => .junk
 | .nils sz, _ => .nils sz
 | .agg ps, ls => .agg (fAs ps ls)
 | .tup ps, ls => .tup (fAs ps ls)
 | .view sz, ls => .view sz (lfL ls)
 | .ptr ps, ls => .ptr (fAs ps ls)
 | .own id off, _ => .own id off none
 | .ownn id off, ls => .own id off (some (lfN ls))
 | .ref id idx off, _ => .ref id idx off
 | .mref id, _ => .mref id
 | .fn f ps, ls => .fn f (fAs ps ls)
 | .iface t p, ls => .iface t (fA p ls)
where fAs : List PA -> List Lf -> List AV
 | [], _ => []
 | p :: ps, ls => fA p ls :: fAs ps (ls.drop (szA p))
theorem qnA {a b : Option (List Lf)} {r : List Lf} (h : q32 a b = some r) : ∃ x y, a = some x /\ b = some y /\ r = x ++ y := by
 cases a <;> cases b <;> simp [q32] at h
 exact ⟨_, _, rfl, rfl, h.symm⟩
mutual
theorem q4m : ∀ (p : PA) {v : AV} {ls : List Lf}, mA p v = some ls -> ls.length = szA p /\ ∀ r, fA p (ls ++ r) = v
 | .int k, v, ls, h => by
  cases v <;> simp only [mA, reduceCtorEq] at h
  split at h
  ·rename_i hk; subst hk; simp at h; subst h; exact ⟨rfl, fun r => rfl⟩
  ·cases h
 | .bool, v, ls, h => by cases v <;> simp [mA] at h; subst h; exact ⟨rfl, fun r => rfl⟩
 | .str, v, ls, h => by cases v <;> simp [mA] at h; subst h; exact ⟨rfl, fun r => rfl⟩
 | .nilp, v, ls, h => by cases v <;> simp [mA] at h; subst h; exact ⟨rfl, fun r => rfl⟩
 | .nilm, v, ls, h => by cases v <;> simp [mA] at h; subst h; exact ⟨rfl, fun r => rfl⟩
 | .nilf, v, ls, h => by cases v <;> simp [mA] at h; subst h; exact ⟨rfl, fun r => rfl⟩
 | .nili, v, ls, h => by cases v <;> simp [mA] at h; subst h; exact ⟨rfl, fun r => rfl⟩
 | .junk, v, ls, h => by cases v <;> simp [mA] at h; subst h; exact ⟨rfl, fun r => rfl⟩
 | .nils sz, v, ls, h => by
  cases v <;> simp only [mA, reduceCtorEq] at h
  split at h
  ·rename_i hk; subst hk; simp at h; subst h; exact ⟨rfl, fun r => rfl⟩
  ·cases h
 | .agg ps, v, ls, h => by
  cases v <;> simp only [mA, reduceCtorEq] at h
  obtain ⟨h1, h2⟩ := qFQ ps h
  exact ⟨h1, fun r => by simp only [fA, h2]⟩
 | .tup ps, v, ls, h => by
  cases v <;> simp only [mA, reduceCtorEq] at h
  obtain ⟨h1, h2⟩ := qFQ ps h
  exact ⟨h1, fun r => by simp only [fA, h2]⟩
 | .view sz, v, ls, h => by
  cases v <;> simp only [mA, reduceCtorEq] at h
  split at h
  ·rename_i hk; subst hk; simp at h; subst h; exact ⟨rfl, fun r => rfl⟩
  ·cases h
 | .ptr ps, v, ls, h => by
  cases v <;> simp only [mA, reduceCtorEq] at h
  obtain ⟨h1, h2⟩ := qFQ ps h
  exact ⟨h1, fun r => by simp only [fA, h2]⟩
 | .own id off, v, ls, h => by
  cases v <;> first | (exfalso; revert h; simp [mA]; done) | skip
  rename_i a b lo
  cases lo <;> first | (exfalso; revert h; simp [mA]; done) | skip
  simp only [mA] at h
  split at h
  ·rename_i hk; obtain ⟨rfl, rfl⟩ := hk; simp at h; subst h; exact ⟨rfl, fun r => rfl⟩
  ·cases h
 | .ownn id off, v, ls, h => by
  cases v <;> first | (exfalso; revert h; simp [mA]; done) | skip
  rename_i a b lo
  cases lo <;> first | (exfalso; revert h; simp [mA]; done) | skip
  simp only [mA] at h
  split at h
  ·rename_i hk; obtain ⟨rfl, rfl⟩ := hk; simp at h; subst h; exact ⟨rfl, fun r => rfl⟩
  ·cases h
 | .ref id idx off, v, ls, h => by
  cases v <;> simp only [mA, reduceCtorEq] at h
  split at h
  ·rename_i hk; obtain ⟨rfl, rfl, rfl⟩ := hk; simp at h; subst h; exact ⟨rfl, fun r => rfl⟩
  ·cases h
 | .mref id, v, ls, h => by
  cases v <;> simp only [mA, reduceCtorEq] at h
  split at h
  ·rename_i hk; subst hk; simp at h; subst h; exact ⟨rfl, fun r => rfl⟩
  ·cases h
 | .fn f ps, v, ls, h => by
  cases v <;> simp only [mA, reduceCtorEq] at h
  split at h
  ·rename_i hk; subst hk
   obtain ⟨h1, h2⟩ := qFQ ps h
   exact ⟨h1, fun r => by simp only [fA, h2]⟩
  ·cases h
 | .iface t p, v, ls, h => by
  cases v <;> simp only [mA, reduceCtorEq] at h
  split at h
  ·rename_i hk; subst hk
   obtain ⟨h1, h2⟩ := q4m p h
   exact ⟨h1, fun r => by simp only [fA, h2]⟩
  ·cases h
theorem qFQ : ∀ (ps : List PA) {vs : List AV} {ls : List Lf}, mA.mAs ps vs = some ls -> ls.length = szA.szAs ps /\ ∀ r, fA.fAs ps (ls ++ r) = vs
 | [], vs, ls, h => by cases vs <;> simp [mA.mAs] at h; subst h; exact ⟨rfl, fun r => rfl⟩
 | p :: ps, vs, ls, h => by
  cases vs <;> simp only [mA.mAs, reduceCtorEq] at h
  obtain ⟨x, y, h1, h2, rfl⟩ := qnA h
  obtain ⟨g1, g2⟩ := q4m p h1
  obtain ⟨g3, g4⟩ := qFQ ps h2
  refine ⟨by simp [szA.szAs, g1, g3], fun r => ?_⟩
  simp only [fA.fAs]
  rw [List.append_assoc, g2]
  congr 1
  rw [<- g1, List.drop_left]
  exact g4 r
end
inductive PB where
 | box (ps : List PA) (fz : Bool)
 | arr (sz : Nat) (fz : Bool)
 | mp
def mB : PB -> Blk -> Option (List Lf)
 | .box ps fz, .box cs fz' => if fz' = fz then mA.mAs ps cs else none
 | .arr sz fz, .arr sz' es fz' => if sz' = sz /\ fz' = fz then some [.l es] else none
 | .mp, .mp kvs => some [.m kvs]
 | _, _ => none
def szB : PB -> Nat
 | .box ps _ => szA.szAs ps
 | _ => 1
def fB : PB -> List Lf -> Blk
 | .box ps fz, ls => .box (fA.fAs ps ls) fz
 | .arr sz fz, ls => .arr sz (lfL ls) fz
 | .mp, ls => .mp (lfM ls)
theorem zbR {p : PB} {v : Blk} {ls : List Lf} (h : mB p v = some ls) : ls.length = szB p /\ ∀ r, fB p (ls ++ r) = v := by
 cases p <;> cases v <;> simp only [mB, reduceCtorEq] at h
 ·split at h
  ·rename_i hk; subst hk
   obtain ⟨h1, h2⟩ := qFQ _ h
   exact ⟨h1, fun r => by simp only [fB, h2]⟩
  ·cases h
 ·split at h
  ·rename_i hk; obtain ⟨rfl, rfl⟩ := hk; simp at h; subst h; exact ⟨rfl, fun r => rfl⟩
  ·cases h
 ·simp at h; subst h; exact ⟨rfl, fun r => rfl⟩
def mH : List (Nat × PB) -> qaA -> Option (List Lf)
 | [], [] => some []
 | (i, p) :: ps, (j, b) :: h => if j = i then q32 (mB p b) (mH ps h) else none
 | _, _ => none
def szH : List (Nat × PB) -> Nat
 | [] => 0
 | (_, p) :: ps => szB p + szH ps
def fH : List (Nat × PB) -> List Lf -> qaA
 | [], _ => []
 | (i, p) :: ps, ls => (i, fB p ls) :: fH ps (ls.drop (szB p))
theorem q4o : ∀ {ps : List (Nat × PB)} {h : qaA} {ls : List Lf}, mH ps h = some ls -> ls.length = szH ps /\ ∀ r, fH ps (ls ++ r) = h
 | [], h, ls, hh => by cases h <;> simp [mH] at hh; subst hh; exact ⟨rfl, fun r => rfl⟩
 | (i, p) :: ps, h, ls, hh => by
  cases h with
  | nil => simp [mH] at hh
  | cons jb h =>
   obtain ⟨j, b⟩ := jb
   simp only [mH] at hh
   split at hh
   ·rename_i hk; subst hk
    obtain ⟨x, y, h1, h2, rfl⟩ := qnA hh
    obtain ⟨g1, g2⟩ := zbR h1
    obtain ⟨g3, g4⟩ := q4o h2
    refine ⟨by simp [szH, g1, g3], fun r => ?_⟩
    simp only [fH]
    rw [List.append_assoc, g2, <- g1, List.drop_left, g4]
   ·cases hh
def mE : List (Nat × PA) -> Env -> Option (List Lf)
 | [], [] => some []
 | (i, p) :: ps, (j, b) :: h => if j = i then q32 (mA p b) (mE ps h) else none
 | _, _ => none
def szE : List (Nat × PA) -> Nat
 | [] => 0
 | (_, p) :: ps => szA p + szE ps
def fE : List (Nat × PA) -> List Lf -> Env
 | [], _ => []
 | (i, p) :: ps, ls => (i, fA p ls) :: fE ps (ls.drop (szA p))
theorem zay : ∀ {ps : List (Nat × PA)} {h : Env} {ls : List Lf}, mE ps h = some ls -> ls.length = szE ps /\ ∀ r, fE ps (ls ++ r) = h
 | [], h, ls, hh => by cases h <;> simp [mE] at hh; subst hh; exact ⟨rfl, fun r => rfl⟩
 | (i, p) :: ps, h, ls, hh => by
  cases h with
  | nil => simp [mE] at hh
  | cons jb h =>
   obtain ⟨j, b⟩ := jb
   simp only [mE] at hh
   split at hh
   ·rename_i hk; subst hk
    obtain ⟨x, y, h1, h2, rfl⟩ := qnA hh
    obtain ⟨g1, g2⟩ := q4m p h1
    obtain ⟨g3, g4⟩ := zay h2
    refine ⟨by simp [szE, g1, g3], fun r => ?_⟩
    simp only [fE]
    rw [List.append_assoc, g2, <- g1, List.drop_left, g4]
   ·cases hh
structure PSt where
 tm : List (Nat × PA)
 hp : List (Nat × PB)
 nx : Nat
 k : Nat
def mSt (p : PSt) (s : St) : Option (List Lf) := if s.nx = p.nx /\ s.k = p.k then q32 (mE p.tm s.tm) (mH p.hp s.hp) else none
def fSt (p : PSt) (ls : List Lf) : St := ⟨fE p.tm ls, fH p.hp (ls.drop (szE p.tm)), p.nx, p.k⟩
theorem q48 {p : PSt} {s : St} {ls : List Lf} (h : mSt p s = some ls) : fSt p ls = s := by
 simp only [mSt] at h
 split at h
 ·rename_i hk
  obtain ⟨x, y, h1, h2, rfl⟩ := qnA h
  obtain ⟨g1, g2⟩ := zay h1
  obtain ⟨g3, g4⟩ := q4o h2
  have := g4 []
  rw [List.append_nil] at this
  obtain ⟨tm, hp, nx, k⟩ := s
  simp only at hk
  simp only [fSt, g2, <- g1, List.drop_left, this, hk.1, hk.2]
 ·cases h
structure PArgs where
 as : List PA
 hp : List (Nat × PB)
def zax (p : PArgs) (a : List AV) (h : qaA) : Option (List Lf) := q32 (mA.mAs p.as a) (mH p.hp h)
def q4b (p : PArgs) (ls : List Lf) : List AV × qaA := (fA.fAs p.as ls, fH p.hp (ls.drop (szA.szAs p.as)))
theorem q4n {p : PArgs} {a : List AV} {h : qaA} {ls : List Lf} (hh : zax p a h = some ls) : (a, h) = q4b p ls := by
 obtain ⟨x, y, h1, h2, rfl⟩ := qnA hh
 obtain ⟨g1, g2⟩ := qFQ _ h1
 obtain ⟨g3, g4⟩ := q4o h2
 have := g4 []
 rw [List.append_nil] at this
 simp only [q4b, g2, <- g1, List.drop_left, this]
structure PRes where
 pan : Bool
 v : PA
 hp : List (Nat × PB)
def zbg (p : PRes) (r : Res) (h : qaA) : Option (List Lf) := match p.pan, r with
 | false, .ret v => q32 (mA p.v v) (mH p.hp h)
 | true, .pan v => q32 (mA p.v v) (mH p.hp h)
 | _, _ => none
def q8C (p : PRes) (ls : List Lf) : Res × qaA := ((match p.pan with | false => .ret (fA p.v ls) | true => .pan (fA p.v ls)), fH p.hp (ls.drop (szA p.v)))
theorem q1P {p : PRes} {r : Res} {h : qaA} {ls : List Lf} (hh : zbg p r h = some ls) : (r, h) = q8C p ls := by
 obtain ⟨pan, pv, php⟩ := p
 cases pan <;> cases r <;> simp only [zbg, reduceCtorEq] at hh
 all_goals
  obtain ⟨x, y, h1, h2, rfl⟩ := qnA hh
  obtain ⟨g1, g2⟩ := q4m _ h1
  obtain ⟨g3, g4⟩ := q4o h2
  have := g4 []
  rw [List.append_nil] at this
  simp only [q8C, g2, <- g1, List.drop_left, this]
end Go.Eng
namespace Go.Eng
instance instSumInh {α β : Type} [Inhabited α] : Inhabited (α ⊕ β) := ⟨.inl default⟩
inductive DT (α : Type) where
 | no
 | at (a : α)
 | br (b : Bool) (x y : DT α)
def DT.ev {α : Type} : DT α -> Option α
 | .no => none
 | .at a => some a
 | .br b x y => Go.Eng.br b x.ev y.ev
@[simp] theorem ev_no {α : Type} : (DT.no : DT α).ev = none := rfl
@[simp] theorem ev_at {α : Type} (a : α) : (DT.at a).ev = some a := rfl
@[simp] theorem ev_br {α : Type} (b : Bool) (x y : DT α) : (DT.br b x y).ev = bif b then x.ev else y.ev := by cases b <;> rfl
noncomputable def DT.bi {α β : Type} [Inhabited β] (o : Option β) (k : β -> DT α) (e : DT α) : DT α := .br (sm o) (k (gv o)) e
@[simp] theorem ev_bi_some {α β : Type} [Inhabited β] (y : β) (k : β -> DT α) (e : DT α) : (DT.bi (some y) k e).ev = (k y).ev := rfl
@[simp] theorem ev_bi_none {α β : Type} [Inhabited β] (k : β -> DT α) (e : DT α) : (DT.bi (none : Option β) k e).ev = e.ev := rfl
@[simp] theorem br_eq {R : Type} (b : Bool) (x y : R) : Go.Eng.br b x y = bif b then x else y := by cases b <;> rfl
@[simp] theorem cond_some {α : Type} (b : Bool) (x y : α) : (bif b then some x else some y) = some (bif b then x else y) := by cases b <;> rfl
noncomputable def qav {α : Type} (x : α) : α := Classical.choose (⟨x, rfl⟩ : ∃ y, y = x)
theorem qaa {α : Type} (x : α) : qav x = x := Classical.choose_spec (⟨x, rfl⟩ : ∃ y, y = x)
def pl {α β : Type} (o : Option (α ⊕ β)) : Option α := match o with
 | some (.inl x) => some x
 | _ => none
def pr {α β : Type} (o : Option (α ⊕ β)) : Option β := match o with
 | some (.inr x) => some x
 | _ => none
def sl {α β : Type} [Inhabited α] (o : α ⊕ β) : α := match o with
 | .inl x => x
 | _ => default
def sr {α β : Type} [Inhabited β] (o : α ⊕ β) : β := match o with
 | .inr x => x
 | _ => default
def pj {τ : Type} (j : Nat) (o : Option (Nat × τ)) : Option τ := match o with
 | some (k, w) => if k = j then some w else none
 | none => none
@[simp] theorem pl_inl {α β : Type} (x : α) : pl (some (Sum.inl x) : Option (α ⊕ β)) = some x := rfl
@[simp] theorem pl_inr {α β : Type} (x : β) : pl (some (Sum.inr x) : Option (α ⊕ β)) = none := rfl
@[simp] theorem pl_none {α β : Type} : pl (none : Option (α ⊕ β)) = none := rfl
@[simp] theorem pr_inl {α β : Type} (x : α) : pr (some (Sum.inl x) : Option (α ⊕ β)) = none := rfl
@[simp] theorem pr_inr {α β : Type} (x : β) : pr (some (Sum.inr x) : Option (α ⊕ β)) = some x := rfl
@[simp] theorem pr_none {α β : Type} : pr (none : Option (α ⊕ β)) = none := rfl
@[simp] theorem sl_inl {α β : Type} [Inhabited α] (x : α) : sl (Sum.inl x : α ⊕ β) = x := rfl
@[simp] theorem sr_inr {α β : Type} [Inhabited β] (x : β) : sr (Sum.inr x : α ⊕ β) = x := rfl
@[simp] theorem pj_some {τ : Type} (j k : Nat) (w : τ) : pj j (some (k, w)) = if k = j then some w else none := rfl
@[simp] theorem pj_none {τ : Type} (j : Nat) : pj j (none : Option (Nat × τ)) = none := rfl
theorem q73 {α β : Type} {o : Option (α ⊕ β)} {x : α} (h : pl o = some x) : o = some (.inl x) := by
 unfold pl at h; split at h
 ·cases h; rfl
 ·cases h
theorem q74 {α β : Type} {o : Option (α ⊕ β)} {x : β} (h : pr o = some x) : o = some (.inr x) := by
 unfold pr at h; split at h
 ·cases h; rfl
 ·cases h
theorem zdo {τ : Type} {j : Nat} {o : Option (Nat × τ)} {w : τ} (h : pj j o = some w) : o = some (j, w) := by
 unfold pj at h
 split at h
 ·split at h
  ·rename_i hk; cases h; rw [hk]
  ·cases h
 ·cases h
abbrev Ent := List AV -> qaA -> List (Bool × Res × qaA)
abbrev Tab := List (Nat × Ent)
def q8I : Tab -> Nat -> List AV -> qaA -> List (Bool × Res × qaA)
 | [], _, _, _ => []
 | (i, g) :: t, f, a, h => if f = i then g a h ++ q8I t f a h else q8I t f a h
def Snd (IP : Prog) (f : Nat) (g : Ent) : Prop := ∀ a h r h', (true, r, h') ∈ g a h -> qfw IP f a h = some (r, h')
def qai (IP : Prog) : Tab -> Prop
 | [] => True
 | (i, g) :: t => Snd IP i g /\ qai IP t
def qVS (T : Tab) (R : Type) : qtz R := fun f a h K => zdz K (q8I T f a h)
theorem qWt {IP : Prog} : ∀ {T : Tab}, qai IP T -> ∀ {f : Nat} {a : List AV} {h : qaA} {r : Res} {h' : qaA}, (true, r, h') ∈ q8I T f a h -> qfw IP f a h = some (r, h')
 | [], _, f, a, h, r, h', hm => by simp [q8I] at hm
 | (i, g) :: t, hT, f, a, h, r, h', hm => by
  simp only [q8I] at hm
  split at hm
  ·rename_i hf
   subst hf
   rcases List.mem_append.1 hm with hm | hm
   ·exact hT.1 _ _ _ _ hm
   ·exact qWt hT.2 hm
  ·exact qWt hT.2 hm
theorem qMD {IP : Prog} {T : Tab} (h : qai IP T) {R : Type} : qMb (qfw IP) (qVS T R) := by
 intro f a hp K ρ hs
 obtain ⟨r, h', h1, h2⟩ := qL6 hs
 exact ⟨r, h', qWt h h1, h2⟩
abbrev qb3 := St -> List (Bool × X × St)
abbrev qYI := List (Nat × qb3)
def q8H : qYI -> Nat -> St -> List (Bool × X × St)
 | [], _, _ => []
 | (i, g) :: t, id, s => if id = i then g s ++ q8H t id s else q8H t id s
def qMY {R : Type} (T : qYI) : qYJ R := fun k _ s K => match k with
 | [] => none
 | id :: _ => match norm (hk k) s with
  | none => none
  | some s1 => zdy K (q8H T id s1)
def q2E : qYI -> List Nat -> List qb3
 | [], _ => []
 | (i, g) :: t, k => match k with
  | [] => []
  | id :: _ => if id = i then g :: q2E t k else q2E t k
def LOk (IP : Prog) (T : qYI) : List (List Nat × ICode) -> Prop
 | [] => True
 | p :: r => (∀ g ∈ q2E T p.1, Told IP p.1 p.2 g) /\ LOk IP T r
theorem qNv {id : Nat} {rest : List Nat} {s : St} {e : Bool × X × St} : ∀ {T : qYI}, e ∈ q8H T id s -> ∃ g ∈ q2E T (id :: rest), e ∈ g s
 | [], h => by simp [q8H] at h
 | (i, g) :: t, h => by
  simp only [q8H] at h
  split at h
  ·rename_i hi
   rcases List.mem_append.1 h with h | h
   ·exact ⟨g, by simp [q2E, hi], h⟩
   ·obtain ⟨g', h1, h2⟩ := qNv h
    exact ⟨g', by simp [q2E, hi]; exact Or.inr (by rw [<- hi]; exact h1), h2⟩
  ·rename_i hi
   obtain ⟨g', h1, h2⟩ := qNv h
   exact ⟨g', by simp [q2E, hi]; exact h1, h2⟩
theorem qxl {IP : Prog} {T : qYI} : ∀ {a b : List (List Nat × ICode)}, LOk IP T (a ++ b) -> LOk IP T a /\ LOk IP T b
 | [], _, h => ⟨trivial, h⟩
 | _ :: _, _, h => ⟨⟨h.1, (qxl h.2).1⟩, (qxl h.2).2⟩
theorem qMZ {IP : Prog} {T : qYI} {R : Type} : ∀ {c : ICode}, LOk IP T (loops c) -> qMf (R := R) (qu4 IP) (qMY T) c := by
 intro c
 induction c with
 | seq a b iha ihb => intro h; exact ⟨iha (qxl h).1, ihb (qxl h).2⟩
 | cond x a b iha ihb => intro h; exact ⟨iha (qxl h).1, ihb (qxl h).2⟩
 | block id a ih => intro h; exact ih h
 | loop k a ih =>
  intro h s K ρ hs
  have hk := h.1
  cases k with
  | nil => simp [qMY] at hs
  | cons id rest =>
   simp only [qMY] at hs
   split at hs
   ·cases hs
   ·rename_i s1 hn
    obtain ⟨x, s', h1, h2⟩ := qL5 hs
    obtain ⟨g, h3, h4⟩ := qNv (rest := rest) h1
    exact ⟨x, s', qRc (hk g h3) hn h4, h2⟩
 | _ => intro _; exact trivial
theorem qab {IP : Prog} {T : qYI} {c : ICode} {l : List (List Nat × ICode)} (h : loops c = l) (hl : LOk IP T l) : LOk IP T (loops c) := h ▸ hl
theorem qau {IP : Prog} {T : qYI} {p : List Nat × ICode} {g : qb3} (h : q2E T p.1 = [g]) (t : Told IP p.1 p.2 g) : ∀ g ∈ q2E T p.1, Told IP p.1 p.2 g := by
 rw [h]; intro g' hg'; rw [List.mem_singleton] at hg'; subst hg'; exact t
theorem qAg {IP : Prog} {T : qYI} {p : List Nat × ICode} (h : q2E T p.1 = []) : ∀ g ∈ q2E T p.1, Told IP p.1 p.2 g := by
 rw [h]; intro g' hg'; cases hg'
section
variable {R : Type} {ls : List Lf} {v : R}
end
def E2 {α β : Type} [Inhabited α] (e : α -> Res × qaA) (E : Option β -> List (Bool × Res × qaA)) (o : Option (α ⊕ β)) : List (Bool × Res × qaA) := (sm (pl o), (e (gv (pl o))).1, (e (gv (pl o))).2) :: E (pr o)
theorem zak {IP : Prog} {T : Tab} {L : qYI} {f : Nat} {F : Fun} {args : List AV} {h : qaA} {β : Type} {dec : Res -> qaA -> Option β} {er : β -> Res × qaA} {t : DT β} {y : β} (hT : qai IP T) (hF : IP.fn f = some F) (hL : LOk IP L (loops F.body))
  (hdec : ∀ r h y, dec r h = some y -> (r, h) = er y) (hb : qZO (R := β) IP (qVS T) (qMY L) f F args h dec = t.ev) (ht : t.ev = some y) : qfw IP f args h = some (er y) := by
 rw [ht] at hb
 obtain ⟨r, h', h1, h2⟩ := qDD (fun R => qMD hT) (qMZ hL) hb
 rw [<- hdec _ _ _ h2]
 exact q35 hF h1
def cvR {τ : Type} (ex : Nat -> X × St) : Rd τ -> Rx τ
 | .next v => .next v
 | .done j => .out (ex j).1 (ex j).2
def cvD {τ : Type} (ex : Nat -> X × St) : DT (Rd τ) -> DT (Rx τ)
 | .no => .no
 | .at r => .at (cvR ex r)
 | .br b x y => .br b (cvD ex x) (cvD ex y)
theorem q0X {τ : Type} {ex : Nat -> X × St} : ∀ {t : DT (Rd τ)}, (cvD ex t).ev = cv ex t.ev
 | .no => rfl
 | .at r => by cases r <;> rfl
 | .br b x y => by
  cases b
  ·exact q0X (t := y)
  ·exact q0X (t := x)
def zdn : X -> Bool
 | .normal => false
 | _ => true
open Classical in
noncomputable def qmX {β : Type} (s : Nat -> Option β) : Option β := if h : ∃ r n, ∀ m, n <= m -> s m = some r then some h.choose else none
theorem q1F {β : Type} {s : Nat -> Option β} {r : β} (h : qmX s = some r) : ∃ n, s n = some r := by
 unfold qmX at h
 split at h
 ·rename_i hx
  obtain ⟨n, hn⟩ := hx.choose_spec
  cases h
  exact ⟨n, hn n (Nat.le_refl n)⟩
 ·cases h
theorem qb2 {β : Type} {s : Nat -> Option β} {r : β} {n : Nat} (h : ∀ m, n <= m -> s m = some r) : qmX s = some r := by
 unfold qmX
 have hx : ∃ r n, ∀ m, n <= m -> s m = some r := ⟨r, n, h⟩
 rw [dif_pos hx]
 obtain ⟨k, hk⟩ := hx.choose_spec
 have h1 := hk (max n k) (Nat.le_max_right _ _)
 rw [h _ (Nat.le_max_left _ _)] at h1
 exact h1.symm
end Go.Eng
namespace Go.Eng
set_option linter.unusedSectionVars false
variable [Globs]
def noC : qdr := fun _ _ _ => none
def noL : qs4 := fun _ _ _ => none
def qvs (sz bytes : Nat) : List AV -> qaA -> Option (Res × qaA)
 | [.view sz' es], [] => if sz' = sz then
   if es.length = 0 then some (.ret (.nils ⟨sz, .any⟩), [])
   else if es.length * bytes <= lim then some (.ret (.own 0 0 none), [(0, .arr sz es false)]) else none
  else none
 | _, _ => none
theorem qYQ {P : Program} {w : World} {I : Imm} {m : Names} {h : qaA} {f : Nat} {vs : Array Value} {v v' : AV} {h' : qaA} (hc : Calls P f vs w (q3Q w I m h (.ret v) h')) (hw : ∀ {w I m u}, Rel w I v m u -> Rel w I v' m u) :
  Calls P f vs w (q3Q w I m h (.ret v') h') := by
 refine hc.mono ?_
 rintro e w' ⟨I', m', ha, u, he, hu⟩
 exact ⟨I', m', ha, u, he, hw hu⟩
theorem qsJ {P : Program} {IP : Prog} {f : Nat} {F : Fun} {sz bytes : Nat} (hF : qak P f F)
  (h1 : body IP noC noL f F [.nils ⟨sz, .nil⟩] [] = some (.ret (.nils ⟨sz, .nil⟩), []))
  (h2 : body IP noC noL f F [.nils ⟨sz, .non⟩] [] = some (.ret (.nils ⟨sz, .any⟩), []))
  (h3 : ∀ es : List AV, es.length ≠ 0 -> es.length * bytes <= lim -> body IP noC noL f F [.view sz es] [] = some (.ret (.own 0 0 none), [(0, .arr sz es false)])) : qm0 P f (qvs sz bytes) := by
 have hC : qq6 P noC := fun _ _ _ _ _ h => by cases h
 have hL : qXG P noL := fun _ _ _ _ _ h => by cases h
 intro args h r h' hg
 unfold qvs at hg
 split at hg
 ·rename_i sz' es
  split at hg
  ·rename_i hsz
   subst hsz
   split at hg
   ·rename_i h0
    cases hg
    refine fun w I m vs H hm hr => .inl ⟨(qgI hC hL hF h1).1, ?_⟩
    obtain ⟨v, vs', rfl, hv, hvs⟩ := by simpa only [qaQ] using hr
    obtain ⟨a, cap, rfl, hcap, _, hz⟩ := by simpa only [Rel] using hv
    subst hvs
    cases a with
    | none =>
     have hc0 := hz rfl
     subst hc0
     refine qYQ ((qgI hC hL hF h1).2 w I m _ H hm ?_) ?_
     ·simp only [qaQ, Rel]
      exact ⟨_, _, rfl, ⟨none, 0, by rw [h0], by simp, by simp, by simp⟩, rfl⟩
     ·intro w I m u hu
      simp only [Rel] at hu ⊢
      obtain ⟨b, cap, rfl, g1, _, _⟩ := hu
      exact ⟨b, cap, rfl, fun _ => g1 (by simp), by simp, by simp⟩
    | some ad =>
     refine (qgI hC hL hF h2).2 w I m _ H hm ?_
     simp only [qaQ, Rel]
     exact ⟨_, _, rfl, ⟨some ad, cap, by rw [h0], by simp, by simp, fun _ => ⟨_, rfl⟩⟩, rfl⟩
   ·rename_i h0
    split at hg
    ·rename_i hb
     cases hg
     exact fun w I m vs H hm hr => .inl ⟨(qgI hC hL hF (h3 es h0 hb)).1, (qgI hC hL hF (h3 es h0 hb)).2 w I m vs H hm hr⟩
    ·cases hg
  ·cases hg
 ·cases hg
theorem qsO {R : Type} {loop : qs4} : ∀ c : ICode, qMf (R := R) loop (fun _ _ _ _ => none) c
 | .seq a b => ⟨qsO a, qsO b⟩
 | .cond _ a b => ⟨qsO a, qsO b⟩
 | .block _ a => qsO a
 | .loop _ _ => fun _ _ _ h => by cases h
 | .skip | .region _ _ | .exit _ | .ret => trivial
theorem qsI {IP : Prog} {f : Nat} {F : Fun} {sz bytes : Nat} {b c : Bool} {x : Res × qaA}
  (hb : ∀ es : List AV, qZO (R := Res × qaA) IP (fun _ _ _ _ _ => none) (fun _ _ _ _ => none) f F [.view sz es] [] (fun r h => some (r, h)) =
   br (decide (es.length ≠ 0)) (br (decide (es.length = 0) && b) (some x) (br (decide (es.length ≠ 0) && (c && room es.length bytes)) (some (.ret (.own 0 0 none), [(0, .arr sz es false)])) none)) none) (hc : c = true) (es : List AV)
  (h0 : es.length ≠ 0) (h1 : es.length * bytes <= lim) : body IP noC noL f F [.view sz es] [] = some (.ret (.own 0 0 none), [(0, .arr sz es false)]) := by
 have hq := hb es
 have e1 : decide (es.length ≠ 0) = true := decide_eq_true h0
 have e2 : decide (es.length = 0) = false := decide_eq_false h0
 have e3 : room es.length bytes = true := decide_eq_true h1
 rw [e1, e2, e3, hc] at hq
 obtain ⟨r, h', h2, h3⟩ := qDD (call := noC) (loop := noL) (fun R f a h K ρ hs => by cases hs) (qsO _) hq
 rw [h2]
 exact h3
def qta (sz bytes : Nat) : Ent := fun a h => match a, h with
 | [.view sz' es], [] => if sz' = sz then [(decide (es.length = 0), .ret (.nils ⟨sz, .any⟩), []), (decide (es.length ≠ 0) && decide (es.length * bytes <= lim), .ret (.own 0 0 none), [(0, .arr sz es false)])] else []
 | _, _ => []
theorem qvr {IP : Prog} {f sz bytes : Nat} (hF : IP.fn f = none) (hS : IP.spec f = some (qvs sz bytes)) : Snd IP f (qta sz bytes) := by
 intro a h r h' hm
 refine qLk hF hS ?_
 unfold qta at hm
 split at hm
 ·rename_i sz' es
  split at hm
  ·rename_i hs
   subst hs
   simp only [List.mem_cons, Prod.mk.injEq, List.not_mem_nil, or_false] at hm
   rcases hm with ⟨hb, rfl, rfl⟩ | ⟨hb, rfl, rfl⟩ <;> simp only [eq_comm (a := true), Bool.and_eq_true, decide_eq_true_eq] at hb
   ·simp [qvs, hb]
   ·simp only [qvs, if_true]
    rw [if_neg hb.1, if_pos hb.2]
  ·cases hm
 ·cases hm
end Go.Eng
namespace Go.Eng
def big : Nat := 9223372036854775807
theorem wrap64 {n : Int} (h1 : -9223372036854775808 <= n) (h2 : n <= 9223372036854775807) : IntKind.i64.wrap n = n := by
 simp [IntKind.wrap, IntKind.signed, IntKind.bits]
 split <;> omega
theorem qal {n m : Nat} (h : n < m) (hm : m <= big) : IntKind.i64.wrap ((n : Int) + 1) = ((n + 1 : Nat) : Int) := by
 simp only [big] at hm
 rw [wrap64 (by omega) (by omega)]; simp
section
variable {τ : Type} {av : τ -> AV} {ks : List CS}
theorem qQv (l : List τ) (n : Nat) : qiM (l.map av) (n : Int) = (l[n]?).map av := by simp [qiM]
theorem q4v (hk : ∀ x, qAn ks (qao (av x)) = true) (l : List τ) (n : Nat) : qay ks (l.map av) (n : Int) = decide (n < l.length) := by
 simp only [qay, qQv]
 by_cases h : n < l.length
 ·simp [h, hk]
 ·simp [h]
theorem qu5 (hk : ∀ x, qAn ks (qao (av x)) = true) {l : List τ} {n : Nat} (h : n < l.length) : qay ks (l.map av) (n : Int) = true := by
 rw [q4v hk, decide_eq_true h]
theorem qbZ {l : List τ} {n : Nat} (h : n < l.length) (j : Nat) : cellAt (l.map av) (n : Int) j = ((qao (av l[n]))[j]?).getD .junk := by
 simp [cellAt, qQv, h]
theorem qdC {l : List τ} {n : Nat} (h : n < l.length) (j : Nat) : qaz (l.map av) n j = ((qao (av l[n]))[j]?).getD .junk := by
 simp [qaz, h]
theorem qiQ {l : List τ} {n off : Nat} (h : n < l.length) : okP ks (l.map av) n off = qAn ks (((qao (av l[n])).drop off).take ks.length) := by
 simp [okP, h]
theorem qnk {l : List τ} {n off m : Nat} (h : n < l.length) : okS (l.map av) n off m = decide (off + m <= (qao (av l[n])).length) := by
 simp [okS, h]
theorem qiC {l : List τ} {n off : Nat} {vs : List AV} (h : n < l.length) {y : τ} (hy : elemOf (av l[n]) (splice (qao (av l[n])) off vs) = av y) : qfu (l.map av) n off vs = (l.set n y).map av := by
 simp [qfu, h, hy, List.map_set]
theorem qaO {l n : Nat} (h : n < l) : inB l (n : Int) = true := by simp [inB, h]
theorem qdB {s : List UInt8} {n : Nat} (h : n < s.length) : qaI s (n : Int) = ((s[n]).toNat : Int) := by
 simp [qaI, qiM, h]
theorem qar {n m : Nat} (h : n < m) : decide ((n : Int) < (m : Int)) = true := by simp [h]
theorem qX3 {n m : Nat} (h : ¬ n < m) : decide ((n : Int) < (m : Int)) = false := by simp; omega
theorem qcA {n b : Nat} (h : n * b <= lim) : room n b = true := decide_eq_true h
end
theorem drop_at {τ : Type} {l : List τ} {n : Nat} (h : n < l.length) : l.drop n = l[n] :: l.drop (n + 1) := List.drop_eq_getElem_cons h
theorem qox {τ : Type} {st : τ -> Option (Rd τ)} (hd : Nat -> τ) (K j : Nat) : ∀ (n : Nat), n <= K -> (∀ m, n <= m -> m < K -> st (hd m) = some (.next (hd (m + 1)))) -> st (hd K) = some (.done j) -> qaq st (hd n) = some (j, hd K) := by
 intro n hn hs he
 obtain ⟨d, rfl⟩ : ∃ d, K = n + d := ⟨K - n, by omega⟩
 clear hn
 induction d generalizing n with
 | zero => exact qag he
 | succ d ih =>
  rw [qaw (hs n (Nat.le_refl _) (by omega))]
  have := ih (n + 1) (fun m h1 h2 => hs m (by omega) (by omega)) (by rw [show n + 1 + d = n + (d + 1) by omega]; exact he)
  rw [this, show n + 1 + d = n + (d + 1) by omega]
def qf0 {α : Type} (p : α -> Bool) (jx : α -> Nat) (je : Nat) (l : List α) : Nat := match l.find? p with
 | some x => jx x
 | none => je
theorem qaC {α τ : Type} {st : τ -> Option (Rd τ)} {l : List α} (hd : Nat -> τ) (p : α -> Bool) (jx : α -> Nat) (je : Nat)
  (hs : ∀ n (h : n < l.length), st (hd n) = some (bif p l[n] then .done (jx l[n]) else .next (hd (n + 1)))) (he : st (hd l.length) = some (.done je)) :
  qaq st (hd 0) = some (qf0 p jx je l, hd (l.findIdx p)) := by
 unfold qf0
 cases hf : l.find? p with
 | none =>
  have hn : ∀ x ∈ l, ¬ p x = true := by simpa using List.find?_eq_none.1 hf
  have hi : l.findIdx p = l.length := List.findIdx_eq_length.2 (by intro x hx; simpa using hn x hx)
  rw [hi]
  exact qox hd l.length je 0 (Nat.zero_le _) (fun m _ hm => by rw [hs m hm, Bool.eq_false_iff.2 (hn _ (List.getElem_mem hm))]; rfl) he
 | some x =>
  have hp : p x = true := List.find?_some hf
  have hlt : l.findIdx p < l.length := List.findIdx_lt_length.2 ⟨x, List.mem_of_find?_eq_some hf, hp⟩
  have hx : l[l.findIdx p] = x := by
   have := List.getElem?_eq_getElem hlt
   rw [List.find?_eq_getElem?_findIdx] at hf
   rw [this] at hf; exact Option.some.inj hf
  refine qox hd (l.findIdx p) (jx x) 0 (Nat.zero_le _) (fun m _ hm => ?_) ?_
  ·rw [hs m (by omega), List.not_of_lt_findIdx hm]; rfl
  ·rw [hs _ hlt, hx, hp]; rfl
theorem qb1 {τ : Type} {st : τ -> Option (Rd τ)} (N : Nat) (hd : Nat -> τ) (p : Nat -> Bool) (jx : Nat -> Nat) (je : Nat)
  (hs : ∀ n, n < N -> st (hd n) = some (bif p n then .done (jx n) else .next (hd (n + 1)))) (he : st (hd N) = some (.done je)) :
  qaq st (hd 0) = some (qf0 p jx je (List.range N), hd ((List.range N).findIdx p)) :=
 qaC (l := List.range N) hd p jx je (fun n h => by rw [List.getElem_range]; exact hs n (by simpa using h)) (by simpa using he)
theorem qaE {α : Type} {p : α -> Bool} {j je : Nat} {l : List α} : qf0 p (fun _ => j) je l = bif l.any p then j else je := by
 unfold qf0
 cases hf : l.find? p with
 | none =>
  have : l.any p = false := by simpa using hf
  rw [this]; rfl
 | some x =>
  have : l.any p = true := List.any_eq_true.2 ⟨x, List.mem_of_find?_eq_some hf, List.find?_some hf⟩
  rw [this]; rfl
def qQP {α σ : Type} (f : Nat -> σ -> α -> σ) : Nat -> σ -> List α -> σ
 | _, a, [] => a
 | n, a, x :: l => qQP f (n + 1) (f n a x) l
theorem qEV {α σ : Type} {f : σ -> α -> σ} : ∀ {l : List α} {n : Nat} {a : σ}, qQP (fun _ => f) n a l = l.foldl f a
 | [], _, _ => rfl
 | x :: l, n, a => by simp only [qQP, List.foldl_cons]; exact qEV
theorem qYY {α σ τ : Type} {st : τ -> Option (Rd τ)} {l : List α} (hd : Nat -> σ -> τ) (f : Nat -> σ -> α -> σ) (jx : σ -> Nat) (inv : Nat -> σ -> Prop) {a : σ} (h0 : inv 0 a)
  (hi : ∀ n a (h : n < l.length), inv n a -> inv (n + 1) (f n a l[n]))
  (hs : ∀ n a (h : n < l.length), inv n a -> st (hd n a) = some (.next (hd (n + 1) (f n a l[n])))) (he : ∀ a, inv l.length a -> st (hd l.length a) = some (.done (jx a))) :
  qaq st (hd 0 a) = some (jx (qQP f 0 a l), hd l.length (qQP f 0 a l)) := by
 have key : ∀ (k n : Nat) (a : σ), n + k = l.length -> inv n a -> qaq st (hd n a) = some (jx (qQP f n a (l.drop n)), hd l.length (qQP f n a (l.drop n))) := by
  intro k
  induction k with
  | zero =>
   intro n a hn ha
   have : n = l.length := by omega
   subst this
   rw [qag (he a ha)]; simp [qQP]
  | succ k ih =>
   intro n a hn ha
   have h : n < l.length := by omega
   rw [qaw (hs n a h ha), ih (n + 1) _ (by omega) (hi n a h ha), drop_at h]
   rfl
 have := key l.length 0 a (by omega) h0
 simpa using this
theorem qow {α σ τ : Type} {st : τ -> Option (Rd τ)} {l : List α} (hd : Nat -> σ -> τ) (f : σ -> α -> σ) (jx : σ -> Nat) (inv : Nat -> σ -> Prop) {a : σ} (h0 : inv 0 a)
  (hi : ∀ n a (h : n < l.length), inv n a -> inv (n + 1) (f a l[n]))
  (hs : ∀ n a (h : n < l.length), inv n a -> st (hd n a) = some (.next (hd (n + 1) (f a l[n])))) (he : ∀ a, inv l.length a -> st (hd l.length a) = some (.done (jx a))) :
  qaq st (hd 0 a) = some (jx (l.foldl f a), hd l.length (l.foldl f a)) := by
 have := qYY (st := st) (l := l) hd (fun _ => f) jx inv h0 hi hs he
 rwa [qEV] at this
end Go.Eng
namespace Go.Eng
inductive LKd where
 | i | b | s | l | n | m
def kdA : PA -> List LKd
 | .int _ => [.i]
 | .bool => [.b]
 | .str => [.s]
 | .view _ => [.l]
 | .ownn _ _ => [.n]
 | .agg ps => kdAs ps
 | .tup ps => kdAs ps
 | .ptr ps => kdAs ps
 | .fn _ ps => kdAs ps
 | .iface _ p => kdA p
 | _ => []
where kdAs : List PA -> List LKd
 | [] => []
 | p :: ps => kdA p ++ kdAs ps
def kdB : PB -> List LKd
 | .box ps _ => kdA.kdAs ps
 | .arr _ _ => [.l]
 | .mp => [.m]
def kdH : List (Nat × PB) -> List LKd
 | [] => []
 | (_, b) :: r => kdB b ++ kdH r
def kdE : List (Nat × PA) -> List LKd
 | [] => []
 | (_, b) :: r => kdA b ++ kdE r
def qhA (p : PArgs) : List LKd := kdA.kdAs p.as ++ kdH p.hp
def qMR (p : PRes) : List LKd := kdA p.v ++ kdH p.hp
def qMS (p : PSt) : List LKd := kdE p.tm ++ kdH p.hp
abbrev TyK : LKd -> Type
 | .i => Int
 | .b => Bool
 | .s => List UInt8
 | .l => List AV
 | .n => Nat
 | .m => List (AV × AV)
abbrev Tup : List LKd -> Type
 | [] => Unit
 | [k] => TyK k
 | k :: ks => TyK k × Tup ks
abbrev qPm : List (List LKd) -> Type
 | [] => Empty
 | [k] => Tup k
 | k :: ks => Tup k ⊕ qPm ks
def zdw : (k : LKd) -> TyK k -> Lf
 | .i, x => .i x
 | .b, x => .b x
 | .s, x => .s x
 | .l, x => .l x
 | .n, x => .n x
 | .m, x => .m x
def zbi : (k : LKd) -> Lf -> Option (TyK k)
 | .i, .i x => some x
 | .b, .b x => some x
 | .s, .s x => some x
 | .l, .l x => some x
 | .n, .n x => some x
 | .m, .m x => some x
 | _, _ => none
theorem q15 : ∀ {k : LKd} {x : Lf} {v : TyK k}, zbi k x = some v -> x = zdw k v := by
 intro k x v h
 cases k <;> cases x <;> simp only [zbi, Option.some.injEq, reduceCtorEq] at h <;> subst h <;> rfl
def toL : (ks : List LKd) -> Tup ks -> List Lf
 | [], _ => []
 | [k], v => [zdw k v]
 | k :: k' :: ks, v => zdw k v.1 :: toL (k' :: ks) v.2
def ofL : (ks : List LKd) -> List Lf -> Option (Tup ks)
 | [], [] => some ()
 | [k], [x] => zbi k x
 | k :: k' :: ks, x :: ls => match zbi k x with
  | some y => match ofL (k' :: ks) ls with
   | some ys => some (y, ys)
   | none => none
  | none => none
 | _, _ => none
theorem qLJ : ∀ {ks : List LKd} {ls : List Lf} {v : Tup ks}, ofL ks ls = some v -> ls = toL ks v
 | [], [], v, _ => rfl
 | [], _ :: _, v, h => by simp [ofL] at h
 | [k], [], v, h => by simp [ofL] at h
 | [k], [x], v, h => by simp only [ofL] at h; rw [q15 h]; rfl
 | [k], _ :: _ :: _, v, h => by simp [ofL] at h
 | k :: k' :: ks, [], v, h => by simp [ofL] at h
 | k :: k' :: ks, x :: ls, v, h => by
  simp only [ofL] at h
  split at h
  ·rename_i y hy
   split at h
   ·rename_i ys hys
    cases h
    rw [q15 hy, qLJ hys]; rfl
   ·cases h
  ·cases h
def aE (p : PArgs) (v : Tup (qhA p)) : List AV := (q4b p (toL (qhA p) v)).1
def aH (p : PArgs) (v : Tup (qhA p)) : qaA := (q4b p (toL (qhA p) v)).2
def aD (p : PArgs) (a : List AV) (h : qaA) : Option (Tup (qhA p)) := match zax p a h with
 | some ls => ofL (qhA p) ls
 | none => none
theorem zbr {p : PArgs} {a : List AV} {h : qaA} {v : Tup (qhA p)} (hh : aD p a h = some v) : a = aE p v /\ h = aH p v := by
 unfold aD at hh
 split at hh
 ·rename_i ls hm
  have h1 := q4n hm
  rw [qLJ hh] at h1
  exact ⟨congrArg Prod.fst h1, congrArg Prod.snd h1⟩
 ·cases hh
abbrev RT (rs : List PRes) : Type := qPm (rs.map qMR)
def rE : (rs : List PRes) -> RT rs -> Res × qaA
 | [], v => nomatch v
 | [r], v => q8C r (toL (qMR r) v)
 | r :: _ :: _, .inl v => q8C r (toL (qMR r) v)
 | _ :: r' :: rs, .inr v => rE (r' :: rs) v
def rD : (rs : List PRes) -> Res -> qaA -> Option (RT rs)
 | [], _, _ => none
 | [r], x, h => match zbg r x h with
  | some ls => ofL (qMR r) ls
  | none => none
 | r :: r' :: rs, x, h => match zbg r x h with
  | some ls => match ofL (qMR r) ls with
   | some v => some (.inl v)
   | none => none
  | none => match rD (r' :: rs) x h with
   | some v => some (.inr v)
   | none => none
theorem zaW : ∀ {rs : List PRes} {x : Res} {h : qaA} {v : RT rs}, rD rs x h = some v -> (x, h) = rE rs v
 | [], x, h, v, hh => by simp [rD] at hh
 | [r], x, h, v, hh => by
  simp only [rD] at hh
  split at hh
  ·rename_i ls hm
   rw [q1P hm, qLJ hh]; rfl
  ·cases hh
 | r :: r' :: rs, x, h, v, hh => by
  simp only [rD] at hh
  split at hh
  ·rename_i ls hm
   split at hh
   ·rename_i w hw
    cases hh
    rw [q1P hm, qLJ hw]; rfl
   ·cases hh
  ·split at hh
   ·rename_i w hw
    cases hh
    exact (zaW hw).trans rfl
   ·cases hh
instance instTupI : ∀ ks : List LKd, Inhabited (Tup ks)
 | [] => ⟨()⟩
 | [.i] => ⟨0⟩ | [.b] => ⟨false⟩ | [.s] => ⟨[]⟩ | [.l] => ⟨[]⟩ | [.n] => ⟨0⟩ | [.m] => ⟨[]⟩
 | .i :: k :: ks => ⟨(0, (instTupI (k :: ks)).default)⟩
 | .b :: k :: ks => ⟨(false, (instTupI (k :: ks)).default)⟩
 | .s :: k :: ks => ⟨([], (instTupI (k :: ks)).default)⟩
 | .l :: k :: ks => ⟨([], (instTupI (k :: ks)).default)⟩
 | .n :: k :: ks => ⟨(0, (instTupI (k :: ks)).default)⟩
 | .m :: k :: ks => ⟨([], (instTupI (k :: ks)).default)⟩
def rL : (rs : List PRes) -> Option (RT rs) -> List (Bool × Res × qaA)
 | [], _ => []
 | [r], o => [(sm o, q8C r (toL (qMR r) (@gv _ (instTupI _) o)))]
 | r :: r' :: rs, o => (sm (pl o), q8C r (toL (qMR r) (@gv _ (instTupI _) (pl o)))) :: rL (r' :: rs) (pr o)
end Go.Eng
namespace Go.Eng
def FE (p : PArgs) (rs : List PRes) (G : Tup (qhA p) -> Option (RT rs)) : Ent := fun a h => match aD p a h with
 | some v => rL rs (G v)
 | none => []
def FH (IP : Prog) (f : Nat) (p : PArgs) (rs : List PRes) (G : Tup (qhA p) -> Option (RT rs)) : Prop := ∀ v y, G v = some y -> qfw IP f (aE p v) (aH p v) = some (rE rs y)
theorem zaX : ∀ {rs : List PRes} {o : Option (RT rs)} {r : Res} {h : qaA}, (true, r, h) ∈ rL rs o -> ∃ y, o = some y /\ rE rs y = (r, h)
 | [], o, r, h, hm => by cases hm
 | [a], o, r, h, hm => by
  simp only [rL, List.mem_singleton, Prod.mk.injEq] at hm
  obtain ⟨hb, hr⟩ := hm
  exact ⟨_, @q4G _ (instTupI (qMR a)) o hb.symm, hr.symm⟩
 | a :: b :: rs, o, r, h, hm => by
  simp only [rL, List.mem_cons, Prod.mk.injEq] at hm
  rcases hm with ⟨hb, hr⟩ | hm
  ·exact ⟨_, q73 (@q4G _ (instTupI (qMR a)) (pl o) hb.symm), hr.symm⟩
  ·obtain ⟨y, h1, h2⟩ := zaX hm
   exact ⟨_, q74 h1, h2⟩
theorem qah {IP : Prog} {f : Nat} {p : PArgs} {rs : List PRes} {G : Tup (qhA p) -> Option (RT rs)} (hG : FH IP f p rs G) : Snd IP f (FE p rs G) := by
 intro a h r h' hm
 unfold FE at hm
 split at hm
 ·rename_i v hv
  obtain ⟨y, h1, h2⟩ := zaX hm
  obtain ⟨rfl, rfl⟩ := zbr hv
  rw [hG _ _ h1, h2]
 ·cases hm
theorem qae {IP : Prog} {T : Tab} {L : qYI} {f : Nat} {F : Fun} {p : PArgs} {rs : List PRes} {G : Tup (qhA p) -> Option (RT rs)} {t : Tup (qhA p) -> DT (RT rs)} (hT : qai IP T) (hL : LOk IP L (loops F.body)) (hF : IP.fn f = some F)
  (hb : ∀ v, qZO (R := RT rs) IP (qVS T) (qMY L) f F (aE p v) (aH p v) (rD rs) = (t v).ev) (hG : ∀ v, G v = (t v).ev) : FH IP f p rs G :=
 fun v _ h => zak hT hF hL (fun _ _ _ h => zaW h) (hb v) ((hG v).symm.trans h)
theorem qbI {IP : Prog} {f : Nat} {p : PArgs} {rs : List PRes} {s : Nat -> Tup (qhA p) -> Option (RT rs)} (h : ∀ n, FH IP f p rs (s n)) : FH IP f p rs (fun v => qmX fun n => s n v) :=
 fun v y hv => (q1F hv).elim fun n hn => h n v y hn
theorem q4V {IP : Prog} {f : Nat} {p : PArgs} {rs : List PRes} {G : Tup (qhA p) -> Option (RT rs)} {y0 : RT rs} (hG : ∀ v, G v = some y0) (hc : ∀ v, (qaP IP 60).1 f (aE p v) (aH p v) = some (rE rs y0)) : FH IP f p rs G :=
 fun v y h => by
  rw [hG v] at h; cases h
  exact qgR.2 ⟨60, hc v⟩
def hE : (hs : List PSt) -> qPm (hs.map qMS) -> St
 | [], v => nomatch v
 | [r], v => fSt r (toL (qMS r) v)
 | r :: _ :: _, .inl v => fSt r (toL (qMS r) v)
 | _ :: r' :: rs, .inr v => hE (r' :: rs) v
def hD : (hs : List PSt) -> St -> Option (qPm (hs.map qMS))
 | [], _ => none
 | [r], s => match mSt r s with
  | some ls => ofL (qMS r) ls
  | none => none
 | r :: r' :: rs, s => match mSt r s with
  | some ls => match ofL (qMS r) ls with
   | some v => some (.inl v)
   | none => none
  | none => match hD (r' :: rs) s with
   | some v => some (.inr v)
   | none => none
theorem q4g : ∀ {hs : List PSt} {s : St} {v : qPm (hs.map qMS)}, hD hs s = some v -> s = hE hs v
 | [], s, v, hh => by simp [hD] at hh
 | [r], s, v, hh => by
  simp only [hD] at hh
  split at hh
  ·rename_i ls hm
   rw [<- q48 hm, qLJ hh]; rfl
  ·cases hh
 | r :: r' :: rs, s, v, hh => by
  simp only [hD] at hh
  split at hh
  ·rename_i ls hm
   split at hh
   ·rename_i w hw
    cases hh
    rw [<- q48 hm, qLJ hw]; rfl
   ·cases hh
  ·split at hh
   ·rename_i w hw
    cases hh
    exact (q4g hw).trans rfl
   ·cases hh
def exN {τ : Type} (l : List (τ -> X × St)) (j : Nat) (v : τ) : X × St := match l[j]? with
 | some g => g v
 | none => (.ret, ⟨[], [], 0, 0⟩)
def exB {τ : Type} (l : List (τ -> X × St)) (j : Nat) (v : τ) : Bool := zdn (exN l j v).1
def zah {τ : Type} [Inhabited τ] (o : Option (Nat × τ)) (l : List (τ -> X × St)) : Nat -> Nat -> List (Bool × X × St)
 | _, 0 => []
 | j, n + 1 => ((match exB l j (gv (pj j o)) with | true => sm (pj j o) | false => false), (exN l j (gv (pj j o))).1, (exN l j (gv (pj j o))).2) :: zah o l (j + 1) n
theorem q08 {τ : Type} [Inhabited τ] {o : Option (Nat × τ)} {l : List (τ -> X × St)} {x : X} {s : St} : ∀ {j n : Nat}, (true, x, s) ∈ zah o l j n -> ∃ k w, o = some (k, w) /\ (x, s) = exN l k w /\ zdn (exN l k w).1 = true
 | j, 0, h => by simp [zah] at h
 | j, n + 1, h => by
  simp only [zah, List.mem_cons, Prod.mk.injEq] at h
  rcases h with ⟨hb, hx, hs⟩ | h
  ·cases hq : exB l j (gv (pj j o)) with
   | false => rw [hq] at hb; cases hb
   | true =>
    rw [hq] at hb
    exact ⟨j, _, zdo (q4G hb.symm), by rw [hx, hs], hq⟩
  ·exact q08 h
def LE {τ : Type} [Inhabited τ] (dec : St -> Option τ) (lo : τ -> Option (Nat × τ)) (l : List (τ -> X × St)) : qb3 := fun s => match dec s with
 | some v => zah (lo v) l 0 l.length
 | none => []
def cvX {τ : Type} (l : List (τ -> X × St)) (v : τ) : DT (Rd τ) -> DT (Rx τ)
 | .no => .no
 | .at (.next w) => .at (.next w)
 | .at (.done j) => .at (.out (exN l j v).1 (exN l j v).2)
 | .br b x y => .br b (cvX l v x) (cvX l v y)
theorem q0Y {τ : Type} {l : List (τ -> X × St)} {v : τ} : ∀ {t : DT (Rd τ)}, cvX l v t = cvD (fun j => exN l j v) t
 | .no => rfl
 | .at (.next w) => rfl
 | .at (.done j) => rfl
 | .br b x y => by simp only [cvX, cvD, q0Y (t := x), q0Y (t := y)]
theorem qat {IP : Prog} {T : Tab} {L : qYI} {keep : List Nat} {c : ICode} {hs : List PSt} (I : Inhabited (qPm (hs.map qMS))) {ex : List (qPm (hs.map qMS) -> X × St)} {st : qPm (hs.map qMS) -> DT (Rd (qPm (hs.map qMS)))} {lo : qPm (hs.map qMS) -> Option (Nat × qPm (hs.map qMS))} (hT : qai IP T) (hL : LOk IP L (loops c))
  (hlo : ∀ v, lo v = qaq (fun v => (st v).ev) v) (hn : ∀ v, norm (hk keep) (hE hs v) = some (hE hs v))
  (hst : ∀ v, qvv IP (qVS T) (qMY L) c (hE hs v) (q6u keep (hD hs)) = (cvX ex v (st v)).ev) : Told IP keep c (LE (hD hs) lo ex) := by
 have key : ∀ v j w, lo v = some (j, w) -> zdn (exN ex j w).1 = true -> qu4 IP keep c (hE hs v) = some (exN ex j w) := by
  intro v j w h ho
  rw [hlo] at h
  have h2 : ∀ v, qvv IP (qVS T) (qMY L) c (hE hs v) (q6u keep (hD hs)) = cv (fun j => exN ex j v) ((st v).ev) := fun v => (hst v).trans (by rw [q0Y, q0X])
  replace h := qlq.1 h
  obtain ⟨n, h⟩ := h
  induction n generalizing v with
  | zero => simp [qrR] at h
  | succ n ih =>
   simp only [qrR] at h
   split at h
   ·rename_i v' hs'
    have hx := h2 v
    rw [hs'] at hx
    obtain ⟨x, s', h3, h4⟩ := qtW (fun R => qMD hT) (qMZ hL) hx
    cases x with
    | normal =>
     simp only [q6u] at h4
     split at h4
     ·rename_i s1 hs1
      split at h4
      ·rename_i v2 hv2
       cases h4
       have := q4g hv2
       subst this
       exact qX2 (hn v) h3 (qLE (by rw [hs1, hn v']) (ih v' h))
      ·cases h4
     ·cases h4
    | _ =>
     simp only [q6u] at h4
     split at h4 <;> cases h4
   ·rename_i j' hs'
    cases h
    have hx := h2 w
    rw [hs'] at hx
    obtain ⟨x, s', h3, h4⟩ := qtW (fun R => qMD hT) (qMZ hL) hx
    cases x with
    | normal =>
     simp only [q6u] at h4
     split at h4
     ·split at h4 <;> cases h4
     ·cases h4
    | _ =>
     simp only [q6u] at h4
     split at h4
     ·rename_i x2 s2 ho
      simp only [Option.some.injEq, Rx.out.injEq] at h4
      obtain ⟨h5, h6⟩ := h4
      exact qX2 (hn w) h3 (by simp only [ho, h5, h6])
     ·cases h4
   ·cases h
 refine ⟨fun s x s' hm => ?_, fun s hne => ?_⟩
 ·unfold LE at hm
  split at hm
  ·rename_i v hv
   obtain ⟨k, w, h1, h2, h3⟩ := q08 hm
   rw [q4g hv, key v k w h1 h3, <- h2]
  ·cases hm
 ·unfold LE at hne
  split at hne
  ·rename_i v hv
   rw [q4g hv]; exact hn v
  ·exact absurd rfl hne
end Go.Eng
namespace Go.Eng
section
variable {T : TypeId -> List Sh}
theorem qcy {d : Nat} {k : IntKind} {x : AV} (h : Fit maxLen T d (.int k) x) : ∃ n, x = .int k n /\ (Lit.int k n).wf = true := by
 cases d with
 | zero => exact h.elim
 | succ d => exact h
theorem qMN {d : Nat} {x : AV} (h : Fit maxLen T d .str x) : ∃ s, x = .str s /\ s.length <= big := by
 cases d with
 | zero => exact h.elim
 | succ d => obtain ⟨n, h, hl⟩ := h; exact ⟨n, h, Nat.le_trans hl (by decide)⟩
theorem qMW {α τ : Type} {f : τ -> α} {p : τ -> Prop} : ∀ {l : List α}, (∀ e ∈ l, ∃ x, e = f x /\ p x) -> ∃ m : List τ, l = m.map f /\ ∀ x ∈ m, p x
 | [], _ => ⟨[], rfl, by simp⟩
 | e :: l, h => by
  obtain ⟨x, rfl, hx⟩ := h e (by simp)
  obtain ⟨m, rfl, hm⟩ := qMW (l := l) fun e he => h e (by simp [he])
  refine ⟨x :: m, rfl, fun y hy => ?_⟩
  rcases List.mem_cons.1 hy with rfl | hy
  ·exact hx
  ·exact hm y hy
theorem qsL {d sz : Nat} {t : TypeId} {x : AV} {τ : Type} {av : τ -> AV} {p : τ -> Prop} (h : Fit maxLen T d (.slice sz true t) x)
  (he : ∀ d xs, qoL (Fit maxLen T d) (T t) xs -> ∃ y : τ, .agg xs = av y /\ p y) : ∃ l : List τ, x = .view sz (l.map av) /\ l.length <= big /\ ∀ y ∈ l, p y := by
 cases d with
 | zero => exact h.elim
 | succ d =>
  obtain ⟨es, rfl, hl, hx⟩ := h
  obtain ⟨m, rfl, hm⟩ := qMW (f := av) (p := p) (l := es) fun e hx' => by
   obtain ⟨xs, rfl, hf⟩ := hx e hx'
   exact he d xs hf
  exact ⟨m, rfl, Nat.le_trans (by simpa using hl) (by decide), hm⟩
end
end Go.Eng
