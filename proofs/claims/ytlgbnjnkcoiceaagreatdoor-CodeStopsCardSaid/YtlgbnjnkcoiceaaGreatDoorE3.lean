/- A machine of plain values, and that what it says holds of the program. -/
import Derived.Test.YtlgbnjnkcoiceaaGreatDoorE2
set_option linter.unusedVariables false
set_option linter.unusedSimpArgs false
set_option linter.unnecessarySimpa false
namespace Go.Eng
set_option linter.unusedSectionVars false
variable [Globs]
def parS (P : Program) : List TypeId → Option (List (Bool × List Sh))
  | [] => some []
  | t :: ts => match isAggT P t, parS P ts with
    | some g, some r => if g = true ∨ (shT P t).length = 1 then some ((g, shT P t) :: r) else none
    | _, _ => none
def FitP (f : Sh → AV → Prop) : List (Bool × List Sh) → List AV → Prop
  | [], avs => avs = []
  | (true, cs) :: ps, avs => ∃ xs r, avs = .agg xs :: r ∧ FitW f cs xs ∧ FitP f ps r
  | (false, cs) :: ps, avs => ∃ x r, avs = x :: r ∧ FitW f cs [x] ∧ FitP f ps r
theorem fitP_mono {f g : Sh → AV → Prop} (hfg : ∀ c x, f c x → g c x) : ∀ {ps : List (Bool × List Sh)} {xs : List AV}, FitP f ps xs → FitP g ps xs
  | [], xs, h => h
  | (true, cs) :: ps, xs, h => by
    obtain ⟨ys, r, he, h1, h2⟩ := h
    exact ⟨ys, r, he, fitW_mono hfg h1, fitP_mono hfg h2⟩
  | (false, cs) :: ps, xs, h => by
    obtain ⟨y, r, he, h1, h2⟩ := h
    exact ⟨y, r, he, fitW_mono hfg h1, fitP_mono hfg h2⟩
theorem fit_le {N : Nat} {T : TypeId → List Sh} {a b : Nat} (h : a ≤ b) {c : Sh} {x : AV} (hx : Fit N T a c x) : Fit N T b c x := by
  induction h with
  | refl => exact hx
  | step _ ih => exact fit_succ _ _ _ ih
section
variable {H : Type} {enc : TypeId × Value → H} {P : Program} {w : World} {base : Nat} {spare : Nat → Bool} {held : Bool} {I : Imm}
theorem not_agg {W : World} {r : Reach} {b : Nat} {t : TypeId} {v : Value} (hg : isAggT P t = some false) (hv : Value.okWide P W r b t v) : v.cells = #[v] := by
  simp only [isAggT, Option.map_eq_some_iff] at hg
  obtain ⟨d, hd, hda⟩ := hg
  cases v with
  | agg cs => cases d <;> simp_all [Value.okWide, Cell.okWide, Cell.ok]
  | _ => rfl
theorem is_agg {W : World} {r : Reach} {b : Nat} {t : TypeId} {v : Value} (hg : isAggT P t = some true) (hv : Value.okWide P W r b t v) : ∃ cs : Array Value, v = .agg cs := by
  simp only [isAggT, Option.map_eq_some_iff] at hg
  obtain ⟨d, hd, hda⟩ := hg
  cases d <;> simp at hda
  · simp only [Value.okWide, hd] at hv
    obtain ⟨cs, h, _⟩ := hv
    exact ⟨cs, h⟩
  · simp only [Value.okWide, hd] at hv
    obtain ⟨cs, h, _⟩ := hv
    exact ⟨cs, h⟩
theorem args_fit {qs : List TypeId} (hT : shOk P qs = true) {W : World} {r : Reach} {b0 : Nat} : ∀ {ts : List TypeId} {ps : List (Bool × List Sh)} {vs : List Value} {ds : List (DataW H)} {pl : List MemPlace}, (∀ t ∈ ts, t ∈ qs) → parS P ts = some ps → DataW.TrodAll enc P w base spare held ts vs ds pl →
    (∀ (j : Nat) t v, ts[j]? = some t → vs[j]? = some v → Value.okWide P W r b0 t v) → (∀ b o, .cell b o ∈ pl → I b o) → ∃ d avs, FitP (Fit maxLen (shT P) d) ps avs ∧ RelL w I avs m0 vs
  | [], ps, [], [], pl, _, hp, _, _, _ => by
    simp [parS] at hp; subst hp
    exact ⟨0, [], rfl, by simp [RelL]⟩
  | [], ps, _ :: _, _, pl, _, _, h, _, _ => by simp [DataW.TrodAll] at h
  | [], ps, [], _ :: _, pl, _, _, h, _, _ => by simp [DataW.TrodAll] at h
  | _ :: _, ps, [], _, pl, _, _, h, _, _ => by simp [DataW.TrodAll] at h
  | _ :: _, ps, _ :: _, [], pl, _, _, h, _, _ => by simp [DataW.TrodAll] at h
  | t :: ts, ps, v :: vs, d :: ds, pl, hq, hp, h, hv, hI => by
    simp only [DataW.TrodAll] at h
    obtain ⟨p, q, ⟨fu, hd⟩, hrest, rfl⟩ := h
    simp only [parS] at hp
    split at hp
    · rename_i g rr hg hr
      split at hp
      · cases hp
        have hok := List.all_eq_true.1 hT t (hq t (by simp))
        split at hok
        · rename_i cs hcs
          have hsh : shT P t = cs := by simp [shT, hcs]
          simp only [Bool.and_eq_true] at hok
          obtain ⟨_, hel⟩ := hok
          obtain ⟨xs, h1, h2⟩ := fit_of_trod hT fu hcs (fun e he => by simpa using List.all_eq_true.1 hel e he) hd fun b o hm => hI b o (List.mem_append_left _ hm)
          obtain ⟨d', avs, h3, h4⟩ := args_fit hT (fun t ht => hq t (by simp [ht])) hr hrest (fun j t v ht hv' => hv (j + 1) t v (by simpa using ht) (by simpa using hv')) fun b o hm => hI b o (List.mem_append_right _ hm)
          have h1' := fitW_mono (fun c x => fit_le (Nat.le_max_left fu d')) h1
          have h3' := fitP_mono (fun c x => fit_le (Nat.le_max_right fu d')) h3
          have hok := hv 0 t v rfl rfl
          rw [hsh]
          refine ⟨max fu d', ?_⟩
          cases g with
          | true =>
            obtain ⟨ca, rfl⟩ := is_agg hg hok
            refine ⟨.agg xs :: avs, ⟨xs, avs, rfl, h1', h3'⟩, ?_⟩
            simp only [RelL, Rel]
            exact ⟨_, vs, rfl, ⟨ca.toList, by simp, h2⟩, h4⟩
          | false =>
            have hcell := not_agg hg hok
            rw [hcell] at h2
            match xs, h2 with
            | [x], h2 =>
              simp only [RelL] at h2
              obtain ⟨v', vs', he, h2, _⟩ := h2
              cases he
              refine ⟨x :: avs, ⟨x, avs, rfl, h1', h3'⟩, ?_⟩
              simp only [RelL]
              exact ⟨v, vs, rfl, h2, h4⟩
            | [], h2 => simp [RelL] at h2
            | _ :: _ :: _, h2 =>
              have := relL_len h2
              simp at this
        · cases hok
      · cases hp
    · cases hp
theorem law_calls {IP : Prog} (hP : ProgOk P IP) {f : FuncId} {avs : List AV} {W : World} {vs : List Value} (hI : ∀ b o, I b o → b < W.heap.size) (hg : GlobAt W I) (hr : RelL W I avs m0 vs) {n : Nat} (hn : (oracle IP n).1 f avs [] = some (.ret (.bool true), [])) :
    Calls P f vs.toArray W fun e W' => e = .returned (.bool true) ∧ RowKit.Below W.heap.size W W' := by
  have H0 : HeapAt W I m0 [] := ⟨fun i b hb => by simp [hlook] at hb, fun i j a b L L' hi => by simp [hlook] at hi, hI, hg⟩
  refine ((oracle_ok hP n).1 _ _ _ _ _ hn).2 W I m0 vs H0 (fun _ _ => rfl) hr |>.mono ?_
  rintro e W' ⟨I', m', hA, u, rfl, hu⟩
  simp only [Rel] at hu
  subst hu
  refine ⟨rfl, hA.stays.out.1, hA.stays.out.2.2, hA.stays.out.2.1, hA.stays.size, fun k hk => hA.frame k hk ?_⟩
  rintro ⟨i, a, L, hi, _⟩
  simp [hlook] at hi
theorem trodAll_stays (hl : laidOutB P = true) {W W' : World} {sp' : Nat → Bool} : ∀ {ts : List TypeId} {vs : List Value} {ds : List (DataW H)} {ps : List MemPlace}, (∀ t ∈ ts, P.readableRec t = true ∧ t < P.types.size) →
    DataW.TrodAll enc P W base (fun _ => true) true ts vs ds ps → (∀ p ∈ ps, W.sameAt W' p) → (∀ p ∈ ps, sp' p.block = true) → DataW.TrodAll enc P W' base sp' true ts vs ds ps
  | [], [], [], ps, _, h, _, _ => h
  | [], _ :: _, _, ps, _, h, _, _ => by simp [DataW.TrodAll] at h
  | [], [], _ :: _, ps, _, h, _, _ => by simp [DataW.TrodAll] at h
  | _ :: _, [], _, ps, _, h, _, _ => by simp [DataW.TrodAll] at h
  | _ :: _, _ :: _, [], ps, _, h, _, _ => by simp [DataW.TrodAll] at h
  | t :: ts, v :: vs, d :: ds, ps, ht, h, hs, hsp => by
    simp only [DataW.TrodAll] at h ⊢
    obtain ⟨p, q, hd, hrest, rfl⟩ := h
    exact ⟨p, q, WideElems.Trod_stays hl (ht t (by simp)).1 (ht t (by simp)).2 hd (fun x hx => hs x (List.mem_append_left _ hx)) fun x hx => hsp x (List.mem_append_left _ hx),
      trodAll_stays hl (fun t' h' => ht t' (by simp [h'])) hrest (fun x hx => hs x (List.mem_append_right _ hx)) fun x hx => hsp x (List.mem_append_right _ hx), rfl⟩
theorem law_post {f : Func} {s : ChangeSpec} {fresh handsOn again : Bool} {W W' : World} {args : Array Value} {ds gs : List (DataW H)} {before : List MemPlace} {tb : TypeId} (hl : laidOutB P = true) (hread : ∀ t ∈ f.params.toList, P.readableRec t = true ∧ t < P.types.size)
    (hvars : s.vars = []) (hres : f.resultTypes = #[tb]) (htb : P.underlying tb = some .bool) (hs1 : (s.fn H (ds ++ gs)).results = [.lit (.bool true)]) (hs2 : (s.fn H (ds ++ gs)).args = ds) (hs3 : (s.fn H (ds ++ gs)).vars = [])
    (hW : DataW.Whole enc P f.params.toList s.vars false W args.toList ds gs before) (hb : RowKit.Below W.heap.size W W') : s.post enc P f false fresh handsOn again W args (.bool true) W' := by
  have hlt := hW.lt
  have hW0 := hW
  obtain ⟨p, q, hA, hV, rfl, hz, hn⟩ := hW
  rw [hvars] at hV
  have hq : q = [] := by
    cases gs with
    | nil => simpa [DataW.TrodVars] using hV
    | cons => simp [DataW.TrodVars] at hV
  subst hq
  have hsame : ∀ x ∈ p, W.sameAt W' x := fun x hx => hb.same (by have := hlt x (List.mem_append_left _ hx); simpa using this)
  have hr1 : ∀ (b : Nat) (sp : Nat → Bool) (hd : Bool), DataW.TrodAll enc P W' b sp hd f.resultTypes.toList ((Value.bool true).resultList f.resultTypes.size) (s.fn H (ds ++ gs)).results [] := by
    intro b sp hd
    rw [hres, hs1]
    exact ⟨[], [], ⟨1, by simp [Value.resultList, Value.cells, DataW.trod, htb]⟩, rfl, rfl⟩
  have hr2 : ∀ sp : Nat → Bool, (∀ x ∈ p, sp x.block = true) → DataW.TrodAll enc P W' 0 sp true f.params.toList args.toList (s.fn H (ds ++ gs)).args p := by
    intro sp hsp
    rw [hs2]
    exact trodAll_stays hl hread hA hsame hsp
  have hr3 : ∀ sp : Nat → Bool, DataW.TrodVars enc P W' sp s.vars (s.fn H (ds ++ gs)).vars [] := by
    intro sp
    rw [hvars, hs3]
    rfl
  have hold : ∀ x ∈ p, decide (x.block < W.heap.size) = true := fun x hx => by simpa using hlt x (List.mem_append_left _ hx)
  refine ⟨ds, gs, p ++ [], [], p, [], hW0, hr1 _ _ _, hr2 _ hold, hr3 _, hb.frame _, fun _ => ⟨?_, _, _, ([] ++ p) ++ [], ⟨[] ++ p, [], ChangeShapes.trodAll_append (hr2 _ fun _ _ => rfl) (hr1 _ _ _), hr3 _, rfl, ?_, fun h => by cases h⟩, ?_⟩⟩
  · intro j t r hj hr
    rw [hres] at hj hr
    match j, hj, hr with
    | 0, hj, hr =>
      simp [Value.resultList] at hj hr
      subst hj; subst hr
      simp [Value.okWide, htb, Cell.okWide, Cell.ok]
  · intro b off hp
    have hp' : MemPlace.cell b off ∈ p ++ [] := by simpa using hp
    rw [hb.frozen (p := ⟨b, off, none⟩) (hlt _ hp')]
    exact hz b off hp'
  · intro x hx _
    simpa using hx
end
end Go.Eng
namespace Go.Eng
section
variable {IP : Prog}
def LeC (c c' : CallT) : Prop := ∀ f a h r, c f a h = some r → c' f a h = some r
def LeL (l l' : LoopT) : Prop := ∀ k c s r, l k c s = some r → l' k c s = some r
theorem callA_mono {c c' : CallT} (hc : LeC c c') {h : Heap} {nx f : Nat} {args : List AV} {r : Res × Heap × Bool} (hs : callA IP c h nx f args = some r) : callA IP c' h nx f args = some r := by
  simp only [callA] at hs ⊢
  split at hs
  · cases hs
  · rename_i args' roots hp
    split at hs
    · rename_i moved shwn h1 h2
      split at hs
      · rename_i hd
        split at hs
        · cases hs
        · rename_i r0 h0 hcl
          simp only [h1, h2, hd, if_true, hc _ _ _ _ hcl]
          exact hs
      · cases hs
    · cases hs
theorem opS_mono {c c' : CallT} (hc : LeC c c') {nx : Nat} {ev : Opd → AV} {h : Heap} {io : IOp} {r : Res × Heap × Bool} (hs : opS IP c nx ev h io = some r) : opS IP c' nx ev h io = some r := by
  cases io <;> try exact hs
  case call f xs => exact callA_mono hc hs
  case callv x xs =>
    simp only [opS] at hs ⊢
    split at hs
    · exact callA_mono hc hs
    · cases hs
  case invk tbl x xs =>
    simp only [opS] at hs ⊢
    split at hs
    · split at hs
      · exact callA_mono hc hs
      · cases hs
    · cases hs
theorem stepO_mono {c c' : CallT} (hc : LeC c c') {nx : Nat} {o : IOper} {e : Env} {h : Heap} {s : Step} (hs : stepO IP c nx o e h = some s) : stepO IP c' nx o e h = some s := by
  simp only [stepO] at hs ⊢
  split at hs
  · cases hs
  · exact hs
  · split at hs
    · cases hs
    · rename_i r hr
      split at hs
      · cases hs
      · rename_i v out w ho
        simp only [opS_mono hc ho]
        exact hs
      · rename_i v out w ho
        simp only [opS_mono hc ho]
        exact hs
theorem runOps_mono {c c' : CallT} (hc : LeC c c') : ∀ {ops : List IOper} {e : Env} {h : Heap} {nx : Nat} {log : List Step} {r : X × Env × Heap × List Step}, runOps IP c ops e h nx log = some r → runOps IP c' ops e h nx log = some r
  | [], e, h, nx, log, r, hs => hs
  | o :: ops, e, h, nx, log, r, hs => by
    simp only [runOps] at hs ⊢
    cases hq : stepO IP c nx o e h with
    | none => simp [hq] at hs
    | some s =>
      rw [stepO_mono hc hq]
      rw [hq] at hs
      cases s with
      | pan a b d => exact hs
      | skip => exact runOps_mono hc hs
      | did a b d f => exact runOps_mono hc hs
theorem runAny_mono {c c' : CallT} (hc : LeC c c') {base : Nat} : ∀ {ops : List IOper} {i : Nat} {e : Env} {h : Heap} {log : List Step} {r : Env × Heap × List Step}, runAny IP c base i ops e h log = some r → runAny IP c' base i ops e h log = some r
  | [], i, e, h, log, r, hs => hs
  | o :: ops, i, e, h, log, r, hs => by
    simp only [runAny] at hs ⊢
    cases hq : stepO IP c (base + 16 * i) o e h with
    | none => simp [hq] at hs
    | some s =>
      rw [stepO_mono hc hq]
      rw [hq] at hs
      simp only at hs ⊢
      split at hs
      · rename_i ht
        rw [if_pos ht]
        exact runAny_mono hc hs
      · cases hs
theorem runRegion_mono {c c' : CallT} (hc : LeC c c') {ops : List IOper} {d : Option (List (List Nat))} {s : St} {r : X × St} (hs : runRegion IP c ops d s = some r) : runRegion IP c' ops d s = some r := by
  simp only [runRegion] at hs ⊢
  split at hs
  · split at hs
    · cases hs
    · rename_i q; rw [runOps_mono hc q]; exact hs
  · split at hs
    · cases hs
    · rename_i q; simp only [runAny_mono hc q]; exact hs
theorem exec_mono {c c' : CallT} (hc : LeC c c') {l l' : LoopT} (hl : LeL l l') : ∀ {ic : ICode} {s : St} {r : X × St}, exec IP c l ic s = some r → exec IP c' l' ic s = some r := by
  intro ic
  induction ic with
  | skip => intro s r h; exact h
  | region ops d => intro s r h; exact runRegion_mono hc h
  | seq a b iha ihb =>
    intro s r h
    simp only [exec] at h ⊢
    split at h
    · rename_i s1 h1
      rw [iha h1]
      exact ihb h
    · rename_i hne
      rw [iha h]
      split
      · rename_i s1 he
        cases he
        exact absurd h (hne s1)
      · rfl
  | cond x a b iha ihb =>
    intro s r h
    simp only [exec] at h ⊢
    split at h
    · exact iha h
    · exact ihb h
    · cases h
  | block id a ih =>
    intro s r h
    simp only [exec] at h ⊢
    split at h
    · rename_i j s1 h1
      rw [ih h1]; exact h
    · rename_i hne
      rw [ih h]
      split
      · rename_i j s1 he
        cases he
        exact absurd h (hne j s1)
      · rfl
  | loop k a ih => intro s r h; exact hl _ _ _ _ h
  | exit id => intro s r h; exact h
  | ret => intro s r h; exact h
theorem body_mono {c c' : CallT} (hc : LeC c c') {l l' : LoopT} (hl : LeL l l') {f : Nat} {F : Fun} {args : List AV} {h : Heap} {r : Res × Heap} (hs : body IP c l f F args h = some r) : body IP c' l' f F args h = some r := by
  simp only [body] at hs ⊢
  cases hq : exec IP c l F.body ⟨params 0 args, h, h.length, h.length⟩ with
  | none => simp [hq] at hs
  | some q => rw [exec_mono hc hl hq]; rw [hq] at hs; exact hs
theorem oracle_mono1 : ∀ n, LeC (oracle IP n).1 (oracle IP (n + 1)).1 ∧ LeL (oracle IP n).2 (oracle IP (n + 1)).2
  | 0 => ⟨fun f a h r hr => by simp [oracle] at hr, fun k c s r hr => by simp [oracle] at hr⟩
  | n + 1 => by
    obtain ⟨h1, h2⟩ := oracle_mono1 n
    constructor
    · intro f a h r hr
      have e1 : (oracle IP (n + 1)).1 f a h = match IP.fn f with
        | some F => body IP (oracle IP n).1 (oracle IP n).2 f F a h
        | none => match IP.spec f with
          | some g => g a h
          | none => none := rfl
      have e2 : (oracle IP (n + 1 + 1)).1 f a h = match IP.fn f with
        | some F => body IP (oracle IP (n + 1)).1 (oracle IP (n + 1)).2 f F a h
        | none => match IP.spec f with
          | some g => g a h
          | none => none := rfl
      rw [e1] at hr
      rw [e2]
      split at hr
      · exact body_mono h1 h2 hr
      · exact hr
    · intro k c s r hr
      have e1 : ∀ m, (oracle IP (m + 1)).2 k c s = match norm (hk k) s with
        | none => none
        | some s => match exec IP (oracle IP m).1 (oracle IP m).2 c s with
          | some (.normal, s) => (oracle IP m).2 k c s
          | some (x, s) => outS k x s
          | none => none := fun _ => rfl
      rw [e1] at hr ⊢
      split at hr
      · cases hr
      · rename_i s1 hn
        split at hr
        · rename_i s2 hx
          simp only [exec_mono h1 h2 hx]
          exact h2 _ _ _ _ hr
        · rename_i x s2 hne hx
          simp only [exec_mono h1 h2 hx]
          cases x with
          | normal => exact absurd rfl (hne)
          | _ => exact hr
        · cases hr
theorem oracle_mono {n m : Nat} (h : n ≤ m) : LeC (oracle IP n).1 (oracle IP m).1 ∧ LeL (oracle IP n).2 (oracle IP m).2 := by
  induction h with
  | refl => exact ⟨fun _ _ _ _ h => h, fun _ _ _ _ h => h⟩
  | step _ ih =>
    obtain ⟨h1, h2⟩ := oracle_mono1 (IP := IP) _
    exact ⟨fun f a h r hr => h1 _ _ _ _ (ih.1 _ _ _ _ hr), fun k c s r hr => h2 _ _ _ _ (ih.2 _ _ _ _ hr)⟩
open Classical in
noncomputable def callO (IP : Prog) : CallT := fun f a h => if hx : ∃ n r, (oracle IP n).1 f a h = some r then (oracle IP (Classical.choose hx)).1 f a h else none
open Classical in
noncomputable def loopO (IP : Prog) : LoopT := fun k c s => if hx : ∃ n r, (oracle IP n).2 k c s = some r then (oracle IP (Classical.choose hx)).2 k c s else none
theorem callO_iff {f : Nat} {a : List AV} {h : Heap} {r : Res × Heap} : callO IP f a h = some r ↔ ∃ n, (oracle IP n).1 f a h = some r := by
  constructor
  · intro hr
    simp only [callO] at hr
    split at hr
    · exact ⟨_, hr⟩
    · cases hr
  · rintro ⟨n, hn⟩
    have hx : ∃ n r, (oracle IP n).1 f a h = some r := ⟨n, r, hn⟩
    simp only [callO, dif_pos hx]
    obtain ⟨r', hr'⟩ := Classical.choose_spec hx
    rw [hr']
    rcases Nat.le_total n (Classical.choose hx) with hle | hle
    · rw [(oracle_mono hle).1 _ _ _ _ hn] at hr'; exact hr'.symm
    · have := (oracle_mono hle).1 _ _ _ _ hr'
      rw [hn] at this; exact this.symm
theorem loopO_iff {k : List Nat} {c : ICode} {s : St} {r : X × St} : loopO IP k c s = some r ↔ ∃ n, (oracle IP n).2 k c s = some r := by
  constructor
  · intro hr
    simp only [loopO] at hr
    split at hr
    · exact ⟨_, hr⟩
    · cases hr
  · rintro ⟨n, hn⟩
    have hx : ∃ n r, (oracle IP n).2 k c s = some r := ⟨n, r, hn⟩
    simp only [loopO, dif_pos hx]
    obtain ⟨r', hr'⟩ := Classical.choose_spec hx
    rw [hr']
    rcases Nat.le_total n (Classical.choose hx) with hle | hle
    · rw [(oracle_mono hle).2 _ _ _ _ hn] at hr'; exact hr'.symm
    · have := (oracle_mono hle).2 _ _ _ _ hr'
      rw [hn] at this; exact this.symm
theorem callA_lim {h : Heap} {nx f : Nat} {args : List AV} {r : Res × Heap × Bool} (hs : callA IP (callO IP) h nx f args = some r) : ∃ n0, ∀ n, n0 ≤ n → callA IP (oracle IP n).1 h nx f args = some r := by
  have hs0 := hs
  simp only [callA] at hs
  split at hs
  · cases hs
  · rename_i args' roots hp
    split at hs
    · rename_i moved shwn h1 h2
      split at hs
      · rename_i hd
        split at hs
        · cases hs
        · rename_i r0 h0 hcl
          obtain ⟨n0, hn0⟩ := callO_iff.1 hcl
          refine ⟨n0, fun n hn => ?_⟩
          have := (oracle_mono hn).1 _ _ _ _ hn0
          simp only [callA, hp, h1, h2, hd, if_true, this]
          exact hs
      · cases hs
    · cases hs
theorem opS_lim {nx : Nat} {ev : Opd → AV} {h : Heap} {io : IOp} {r : Res × Heap × Bool} (hs : opS IP (callO IP) nx ev h io = some r) : ∃ n0, ∀ n, n0 ≤ n → opS IP (oracle IP n).1 nx ev h io = some r := by
  cases io <;> try exact ⟨0, fun n _ => hs⟩
  case call f xs => exact callA_lim hs
  case callv x xs =>
    simp only [opS] at hs ⊢
    split at hs
    · exact callA_lim hs
    · cases hs
  case invk tbl x xs =>
    simp only [opS] at hs ⊢
    split at hs
    · split at hs
      · exact callA_lim hs
      · cases hs
    · cases hs
theorem stepO_lim {nx : Nat} {o : IOper} {e : Env} {h : Heap} {s : Step} (hs : stepO IP (callO IP) nx o e h = some s) : ∃ n0, ∀ n, n0 ≤ n → stepO IP (oracle IP n).1 nx o e h = some s := by
  simp only [stepO] at hs ⊢
  split at hs
  · cases hs
  · exact ⟨0, fun n _ => hs⟩
  · split at hs
    · cases hs
    · rename_i r hr
      split at hs
      · cases hs
      · rename_i v out w ho
        obtain ⟨n0, h0⟩ := opS_lim ho
        exact ⟨n0, fun n hn => by simp only [h0 n hn]; exact hs⟩
      · rename_i v out w ho
        obtain ⟨n0, h0⟩ := opS_lim ho
        exact ⟨n0, fun n hn => by simp only [h0 n hn]; exact hs⟩
theorem runOps_lim : ∀ {ops : List IOper} {e : Env} {h : Heap} {nx : Nat} {log : List Step} {r : X × Env × Heap × List Step}, runOps IP (callO IP) ops e h nx log = some r → ∃ n0, ∀ n, n0 ≤ n → runOps IP (oracle IP n).1 ops e h nx log = some r
  | [], e, h, nx, log, r, hs => ⟨0, fun n _ => hs⟩
  | o :: ops, e, h, nx, log, r, hs => by
    simp only [runOps] at hs ⊢
    cases hq : stepO IP (callO IP) nx o e h with
    | none => simp [hq] at hs
    | some s =>
      obtain ⟨n0, h0⟩ := stepO_lim hq
      rw [hq] at hs
      cases s with
      | pan a b d => exact ⟨n0, fun n hn => by rw [h0 n hn]; exact hs⟩
      | skip =>
        obtain ⟨n1, h1⟩ := runOps_lim hs
        exact ⟨max n0 n1, fun n hn => by rw [h0 n (by omega)]; exact h1 n (by omega)⟩
      | did a b d f =>
        obtain ⟨n1, h1⟩ := runOps_lim hs
        exact ⟨max n0 n1, fun n hn => by rw [h0 n (by omega)]; exact h1 n (by omega)⟩
theorem runAny_lim {base : Nat} : ∀ {ops : List IOper} {i : Nat} {e : Env} {h : Heap} {log : List Step} {r : Env × Heap × List Step}, runAny IP (callO IP) base i ops e h log = some r → ∃ n0, ∀ n, n0 ≤ n → runAny IP (oracle IP n).1 base i ops e h log = some r
  | [], i, e, h, log, r, hs => ⟨0, fun n _ => hs⟩
  | o :: ops, i, e, h, log, r, hs => by
    simp only [runAny] at hs ⊢
    cases hq : stepO IP (callO IP) (base + 16 * i) o e h with
    | none => simp [hq] at hs
    | some s =>
      obtain ⟨n0, h0⟩ := stepO_lim hq
      rw [hq] at hs
      simp only at hs
      split at hs
      · rename_i ht
        obtain ⟨n1, h1⟩ := runAny_lim hs
        exact ⟨max n0 n1, fun n hn => by rw [h0 n (by omega)]; simp only; rw [if_pos ht]; exact h1 n (by omega)⟩
      · cases hs
theorem runRegion_lim {ops : List IOper} {d : Option (List (List Nat))} {s : St} {r : X × St} (hs : runRegion IP (callO IP) ops d s = some r) : ∃ n0, ∀ n, n0 ≤ n → runRegion IP (oracle IP n).1 ops d s = some r := by
  simp only [runRegion] at hs ⊢
  cases d with
  | none =>
    simp only at hs ⊢
    split at hs
    · cases hs
    · rename_i q
      obtain ⟨n0, h0⟩ := runOps_lim q
      exact ⟨n0, fun n hn => by rw [h0 n hn]; exact hs⟩
  | some bf =>
    simp only at hs ⊢
    split at hs
    · cases hs
    · rename_i q
      obtain ⟨n0, h0⟩ := runAny_lim q
      exact ⟨n0, fun n hn => by simp only [h0 n hn]; exact hs⟩
theorem exec_lim : ∀ {ic : ICode} {s : St} {r : X × St}, exec IP (callO IP) (loopO IP) ic s = some r → ∃ n0, ∀ n, n0 ≤ n → exec IP (oracle IP n).1 (oracle IP n).2 ic s = some r := by
  intro ic
  induction ic with
  | skip => intro s r h; exact ⟨0, fun n _ => h⟩
  | region ops d => intro s r h; exact runRegion_lim h
  | seq a b iha ihb =>
    intro s r h
    simp only [exec] at h ⊢
    split at h
    · rename_i s1 h1
      obtain ⟨n0, h0⟩ := iha h1
      obtain ⟨n1, h1⟩ := ihb h
      exact ⟨max n0 n1, fun n hn => by rw [h0 n (by omega)]; exact h1 n (by omega)⟩
    · rename_i hne
      obtain ⟨n0, h0⟩ := iha h
      refine ⟨n0, fun n hn => ?_⟩
      rw [h0 n hn]
      split
      · rename_i s1 he
        cases he
        exact absurd h (hne s1)
      · rfl
  | cond x a b iha ihb =>
    intro s r h
    simp only [exec] at h ⊢
    split at h
    · exact iha h
    · exact ihb h
    · cases h
  | block id a ih =>
    intro s r h
    simp only [exec] at h ⊢
    split at h
    · rename_i j s1 h1
      obtain ⟨n0, h0⟩ := ih h1
      exact ⟨n0, fun n hn => by rw [h0 n hn]; exact h⟩
    · rename_i hne
      obtain ⟨n0, h0⟩ := ih h
      refine ⟨n0, fun n hn => ?_⟩
      rw [h0 n hn]
      split
      · rename_i j s1 he
        cases he
        exact absurd h (hne j s1)
      · rfl
  | loop k a ih =>
    intro s r h
    obtain ⟨n0, h0⟩ := loopO_iff.1 h
    exact ⟨n0, fun n hn => (oracle_mono hn).2 _ _ _ _ h0⟩
  | exit id => intro s r h; exact ⟨0, fun n _ => h⟩
  | ret => intro s r h; exact ⟨0, fun n _ => h⟩
theorem callO_spec {f : Nat} {g : List AV → Heap → Option (Res × Heap)} (hF : IP.fn f = none) (hS : IP.spec f = some g) {a : List AV} {h : Heap} {r : Res × Heap} (hr : g a h = some r) : callO IP f a h = some r :=
  callO_iff.2 ⟨1, by simp only [oracle, hF, hS]; exact hr⟩
theorem callO_of {f : Nat} {F : Fun} (hF : IP.fn f = some F) {a : List AV} {h : Heap} {r : Res × Heap} (hb : body IP (callO IP) (loopO IP) f F a h = some r) : callO IP f a h = some r := by
  simp only [body] at hb
  cases hq : exec IP (callO IP) (loopO IP) F.body ⟨params 0 a, h, h.length, h.length⟩ with
  | none => simp [hq] at hb
  | some q =>
    obtain ⟨n0, h0⟩ := exec_lim hq
    refine callO_iff.2 ⟨n0 + 1, ?_⟩
    simp only [oracle, hF, body, h0 n0 (Nat.le_refl _)]
    rw [hq] at hb
    exact hb
theorem loopO_of {k : List Nat} {c : ICode} {s s1 : St} (hn : norm (hk k) s = some s1) {x : X} {s2 : St} (hx : exec IP (callO IP) (loopO IP) c s1 = some (x, s2)) {r : X × St} (hr : (match x with | .normal => loopO IP k c s2 | x => outS k x s2) = some r) : loopO IP k c s = some r := by
  obtain ⟨n0, h0⟩ := exec_lim hx
  cases x with
  | normal =>
    obtain ⟨n1, h1⟩ := loopO_iff.1 hr
    refine loopO_iff.2 ⟨max n0 n1 + 1, ?_⟩
    simp only [oracle, hn, h0 (max n0 n1) (by omega)]
    exact (oracle_mono (by omega)).2 _ _ _ _ h1
  | _ =>
    refine loopO_iff.2 ⟨n0 + 1, ?_⟩
    simp only [oracle, hn, h0 n0 (Nat.le_refl _)]
    exact hr
end
end Go.Eng
namespace Go.Eng
def byteAt (s : List UInt8) (i : Int) : Int := ((atIdx s i).getD 0).toNat
def inB (n : Nat) (i : Int) : Bool := decide (0 ≤ i) && decide (i < n)
theorem atIdx_inB {α : Type} {l : List α} {i : Int} (h : inB l.length i = true) : ∃ x, atIdx l i = some x := by
  simp only [inB, Bool.and_eq_true, decide_eq_true_eq] at h
  have : i.toNat < l.length := by omega
  exact ⟨l[i.toNat], by simp [atIdx, h.1, this]⟩
def lowN : Option AV → Nat
  | some (.int _ n) => n.toNat
  | _ => 0
def highN (len : Nat) : Option AV → Nat
  | some (.int _ n) => n.toNat
  | _ => len
def leB (n : Int) (m : Nat) : Bool := decide (0 ≤ n) && decide (n ≤ m)
def bndB (len cap : Nat) (lo hi : Option AV) : Bool :=
  (match hi with
    | none => true
    | some (.int _ n) => leB n cap
    | _ => false) &&
  (match lo with
    | none => true
    | some (.int _ n) => leB n (highN len hi)
    | _ => false)
theorem bounds_of {len cap : Nat} {lo hi : Option AV} (h : bndB len cap lo hi = true) : bounds len cap lo hi = some (lowN lo, highN len hi) := by
  simp only [bndB, Bool.and_eq_true] at h
  obtain ⟨h1, h2⟩ := h
  have e1 : highB len cap hi = some (highN len hi) := by
    cases hi with
    | none => rfl
    | some v => cases v <;> simp_all [leB, highB, highN]
  simp only [bounds, e1]
  cases lo with
  | none => rfl
  | some v => cases v <;> simp_all [leB, lowB, lowN]
def cutL {α : Type} (es : List α) (lo hi : Option AV) : List α := match lo, hi with
  | none, none => es
  | none, some h => es.take (highN es.length (some h))
  | some l, none => es.drop (lowN (some l))
  | some l, some h => (es.drop (lowN (some l))).take (highN es.length (some h) - lowN (some l))
theorem cutL_eq {α : Type} (es : List α) (lo hi : Option AV) : cutL es lo hi = (es.drop (lowN lo)).take (highN es.length hi - lowN lo) := by
  cases lo <;> cases hi
  · simp [cutL, lowN, highN]
  · simp [cutL, lowN]
  · rename_i v
    simp only [cutL]
    rw [show highN es.length none = es.length from rfl, List.take_of_length_le (by simp)]
  · rfl
abbrev Alt := Bool × (Res × Heap × Bool)
def room (n bytes : Nat) : Bool := decide (n * bytes ≤ lim)
def leO (off n : Nat) : Bool := match off with
  | 0 => true
  | k + 1 => decide (k + 1 ≤ n)
theorem leO_le {off n : Nat} (h : leO off n = true) : off ≤ n := by
  cases off
  · omega
  · exact of_decide_eq_true h
def srcK (h : Heap) (sz : Nat) : AV → Option (Bool × List AV)
  | .nils _ => some (true, [])
  | .view sz' es => some (decide (sz' = sz), es)
  | .own id off lo => match hlook h id with
    | some (.arr sz' es _) => match lo with
      | some len => some (decide (sz' = sz) && decide (off + len ≤ es.length), takeO es off (some len))
      | none => some (decide (sz' = sz), dropO es off)
    | _ => none
  | _ => none
theorem srcK_of {h : Heap} {sz : Nat} {v : AV} {es : List AV} (hs : srcK h sz v = some (true, es)) : srcOf h sz v = some es := by
  cases v <;> simp only [srcK, srcOf] at hs ⊢ <;> try (simp at hs; done)
  case nils => simpa using hs
  case view sz' es' => simp at hs; simp [hs]
  case own id off lo =>
    split at hs
    · rename_i sz' es' fz hl
      rw [hl]
      cases lo with
      | none => simp at hs; simp [hs]
      | some len => simp at hs; simp [hs]
    · cases hs
def appAlts (h : Heap) (nx sz bytes : Nat) (s : AV) (b : Bool) (src : List AV) : List Alt :=
  match s with
  | .nils ⟨_, .non⟩ => [(decide (src.length = 0) && b, .ret s, h, true)]
  | .nils _ => [(decide (src.length = 0) && b, .ret s, h, true), (decide (src.length ≠ 0) && (b && room src.length bytes), .ret (.own nx 0 none), hput h nx (.arr sz src false), true)]
  | .own id off lo => match hlook h id with
    | some (.arr sz' es false) => match lo with
      | none =>
        [(decide (src.length = 0) && (decide (sz' = sz) && b), .ret s, h, true),
         (decide (src.length ≠ 0) && (decide (sz' = sz) && (b && (leO off es.length && room (lenO es.length off none + src.length) bytes))), .ret (.own nx 0 none), hput (hdel h id) nx (.arr sz (dropO es off ++ src) false), true)]
      | some len =>
        [(decide (src.length = 0) && (decide (sz' = sz) && b), .ret s, h, true),
         (decide (src.length ≠ 0) && (decide (sz' = sz) && (decide (off + len + src.length ≤ es.length) && b)), .ret (.own id off (some (len + src.length))), hput h id (.arr sz (es.take (off + len) ++ src ++ es.drop (off + len + src.length)) false), true),
         (decide (src.length ≠ 0) && (decide (sz' = sz) && (decide (es.length < off + len + src.length) && (b && (decide (off + len ≤ es.length) && room (len + src.length) bytes)))), .ret (.own nx 0 none), hput (hdel h id) nx (.arr sz (takeO es off (some len) ++ src) false), true)]
    | _ => []
  | .view _ _ => [(decide (src.length = 0) && b, .ret s, h, true)]
  | _ => []
def ownB (num off : Nat) (lo : Option Nat) (i : Int) : Bool := match off, lo with
  | 0, none => inB num i
  | _, _ => inB (lenO num off lo) i && decide (off + i.toNat < num)
theorem ownB_of {num off : Nat} {lo : Option Nat} {i : Int} (h : ownB num off lo i = true) : 0 ≤ i ∧ i < lenO num off lo ∧ off + i.toNat < num := by
  unfold ownB at h
  split at h
  · simp only [inB, Bool.and_eq_true, decide_eq_true_eq] at h
    exact ⟨h.1, h.2, by omega⟩
  · simp only [inB, Bool.and_eq_true, decide_eq_true_eq] at h
    exact ⟨h.1.1, h.1.2, h.2⟩
def endB (num off : Nat) (lo : Option Nat) (hi : Option AV) : Bool := match off, lo, hi with
  | 0, none, none => true
  | _, _, _ => decide (off + highN (lenO num off lo) hi ≤ num)
theorem endB_of {num off : Nat} {lo : Option Nat} {hi : Option AV} (h : endB num off lo hi = true) : off + highN (lenO num off lo) hi ≤ num := by
  unfold endB at h
  split at h
  · simp [highN, lenO]
  · exact of_decide_eq_true h
def mputK (ks : Key) (m : List (AV × AV)) (k v : AV) : List (AV × AV) := (mput ks m k v).getD []
def mcutK (ks : Key) (m : List (AV × AV)) (k : AV) : List (AV × AV) := (mcut ks m k).getD []
def mputB (ks : Key) (m : List (AV × AV)) (k v : AV) : Bool := isKey ks k && (mput ks m k v).isSome
def mcutB (ks : Key) (m : List (AV × AV)) (k : AV) : Bool := isKey ks k && (mcut ks m k).isSome
def alts (nx : Nat) (ev : Opd → AV) (h : Heap) : IOp → List Alt
  | .idxs x i => match ev x, ev i with
    | .str s, .int _ j => [(inB s.length j, .ret (.int .u8 (byteAt s j)), h, false)]
    | _, _ => []
  | .slc sz x lo hi => match ev x with
    | .view sz' es => [(decide (sz' = sz) && bndB es.length es.length (mapOp ev lo) (mapOp ev hi), .ret (.view sz (cutL es (mapOp ev lo) (mapOp ev hi))), h, false)]
    | .own id off len => match hlook h id with
      | some (.arr sz' es _) => [(decide (sz' = sz) && (bndB (lenO es.length off len) (lenO es.length off none) (mapOp ev lo) (mapOp ev hi) && endB es.length off len (mapOp ev hi)),
          .ret (.own id (off + lowN (mapOp ev lo)) (cutO len hi (highN (lenO es.length off len) (mapOp ev hi) - lowN (mapOp ev lo)))), h, false)]
      | _ => []
    | _ => []
  | .slcs x lo hi => match ev x with
    | .str s => [(bndB s.length s.length (mapOp ev lo) (mapOp ev hi), .ret (.str (cutL s (mapOp ev lo) (mapOp ev hi))), h, false)]
    | _ => []
  | .slc3 x lo hi mx => match ev lo, ev hi, ev mx with
    | .int _ l, .int _ u, .int _ m => match ev x with
      | .view _ es => [(decide (0 ≤ l) && decide (l ≤ u) && decide (u ≤ m) && decide (m ≤ es.length), .ret .junk, h, false)]
      | .own id off _ => match hlook h id with
        | some (.arr _ es _) => [(decide (0 ≤ l) && decide (l ≤ u) && decide (u ≤ m) && decide (m ≤ ((es.length - off : Nat) : Int)), .ret .junk, h, false)]
        | _ => []
      | _ => []
    | _, _, _ => []
  | .iaddr sz _ x i => match ev x, ev i with
    | .own id off len, .int _ i => match hlook h id with
      | some (.arr sz' es _) => [(decide (sz' = sz) && ownB es.length off len i, .ret (.ref id (idxO off i) 0), h, false)]
      | _ => []
    | _, _ => []
  | .eqn k neg x y => match k, ev x, ev y with
    | .s, .view _ es, .nils ⟨_, .nil⟩ => [(decide (es.length ≠ 0), .ret (.bool neg), h, false)]
    | .s, .nils ⟨_, .nil⟩, .view _ es => [(decide (es.length ≠ 0), .ret (.bool neg), h, false)]
    | _, _, _ => []
  | .app sz bytes s x => match srcK h sz (ev x) with
    | some (b, src) => appAlts h nx sz bytes (ev s) b src
    | none => []
  | .clr sz z x => match ev x with
    | .own id off lo => match hlook h id with
      | some (.arr sz' es false) => [(decide (sz' = sz) && decide (off + lenO es.length off lo ≤ es.length), .ret unit, hput h id (.arr sz (es.take off ++ List.replicate (lenO es.length off lo) (nz z) ++ es.drop (off + lenO es.length off lo)) false), true)]
      | _ => []
    | _ => []
  | .mks sz bytes z l c => match ev l, ev c with
    | .int _ l', .int _ c' => [(decide (0 ≤ l') && decide (l' ≤ c') && room c'.toNat bytes && decide (c' ≤ 4611686018427387904), .ret (.own nx 0 (if sameO l c then none else some l'.toNat)), hput h nx (.arr sz (List.replicate c'.toNat (nz z)) false), false)]
    | _, _ => []
  | .mupd ks m k v => match ev m with
    | .mref id => match idsA (ev k), idsA (ev v), hlook h id with
      | [], [], some (.mp kvs) => [(mputB ks kvs (ev k) (nz (ev v)), .ret unit, hput h id (.mp (mputK ks kvs (ev k) (nz (ev v)))), true)]
      | _, _, _ => []
    | _ => []
  | .mdel ks m k => match ev m with
    | .mref id => match hlook h id with
      | some (.mp kvs) => [(mcutB ks kvs (ev k), .ret unit, hput h id (.mp (mcutK ks kvs (ev k))), true)]
      | _ => []
    | _ => []
  | .bin .quo x y => match ev x, ev y with
    | .int k a, .int k' b => [(decide (k = k') && decide (b ≠ 0), .ret (.int k (k.wrap (a.tdiv b))), h, false)]
    | _, _ => []
  | .bin .rem x y => match ev x, ev y with
    | .int k a, .int k' b => [(decide (k = k') && decide (b ≠ 0), .ret (.int k (a.tmod b)), h, false)]
    | _, _ => []
  | .bin .shl x y => match ev x, ev y with
    | .int k a, .int _ b => [(decide (0 ≤ b), .ret (.int k (k.wrap (a * 2 ^ (min b.toNat k.bits)))), h, false)]
    | _, _ => []
  | .bin .shr x y => match ev x, ev y with
    | .int k a, .int _ b => [(decide (0 ≤ b), .ret (.int k (a.fdiv (2 ^ (min b.toNat k.bits)))), h, false)]
    | _, _ => []
  | .bin .add x y => match ev x, ev y with
    | .str a, .str b => [(decide (a.length + b.length ≤ 4611686018427387904), .ret (.str (a ++ b)), h, false)]
    | _, _ => []
  | _ => []
theorem appAlts_ok {h : Heap} {nx sz bytes : Nat} {s : AV} {src : List AV} {b : Bool} {r : Res × Heap × Bool} (hm : (true, r) ∈ appAlts h nx sz bytes s b src) : b = true ∧ ∃ v h', appA h nx sz bytes s src = some (v, h') ∧ r = (.ret v, h', true) := by
  cases s <;> simp only [appAlts] at hm <;> try (simp at hm; done)
  case nils q =>
    obtain ⟨q, k⟩ := q
    cases k <;> simp only [appAlts] at hm
    case non =>
      simp only [List.mem_cons, Prod.mk.injEq, List.not_mem_nil, or_false] at hm
      obtain ⟨hb, rfl⟩ := hm
      simp only [eq_comm (a := true), Bool.and_eq_true, decide_eq_true_eq] at hb
      exact ⟨hb.2, _, _, by simp [appA, hb.1], rfl⟩
    all_goals
      simp only [List.mem_cons, Prod.mk.injEq, List.not_mem_nil, or_false] at hm
      rcases hm with ⟨hb, rfl⟩ | ⟨hb, rfl⟩ <;> simp only [eq_comm (a := true), Bool.and_eq_true, decide_eq_true_eq, room] at hb
      · exact ⟨hb.2, _, _, by simp [appA, hb.1], rfl⟩
      · obtain ⟨h1, h0, h2⟩ := hb
        exact ⟨h0, _, _, by simp only [appA]; rw [if_neg h1, if_pos h2], rfl⟩
  case view sz' es =>
    simp only [List.mem_cons, Prod.mk.injEq, List.not_mem_nil, or_false] at hm
    obtain ⟨hb, rfl⟩ := hm
    simp only [eq_comm (a := true), Bool.and_eq_true, decide_eq_true_eq] at hb
    exact ⟨hb.2, _, _, by simp only [appA]; rw [if_pos hb.1], rfl⟩
  case own id off lo =>
    split at hm
    · rename_i sz' es hl
      cases lo with
      | none =>
        simp only [List.mem_cons, Prod.mk.injEq, List.not_mem_nil, or_false] at hm
        rcases hm with ⟨hb, rfl⟩ | ⟨hb, rfl⟩ <;> simp only [eq_comm (a := true), Bool.and_eq_true, decide_eq_true_eq, room] at hb
        · obtain ⟨h3, h1, h0⟩ := hb
          exact ⟨h0, _, _, by simp only [appA, hl]; rw [if_pos h1, if_pos h3], rfl⟩
        · obtain ⟨h3, h1, h0, h2, h5⟩ := hb
          exact ⟨h0, _, _, by simp only [appA, hl]; rw [if_pos h1, if_neg h3, if_pos ⟨leO_le h2, h5⟩], rfl⟩
      | some len =>
        simp only [List.mem_cons, Prod.mk.injEq, List.not_mem_nil, or_false] at hm
        rcases hm with ⟨hb, rfl⟩ | ⟨hb, rfl⟩ | ⟨hb, rfl⟩ <;> simp only [eq_comm (a := true), Bool.and_eq_true, decide_eq_true_eq, room] at hb
        · obtain ⟨h3, h1, h0⟩ := hb
          exact ⟨h0, _, _, by simp only [appA, hl]; rw [if_pos h1, if_pos h3], rfl⟩
        · obtain ⟨h3, h1, h4, h0⟩ := hb
          exact ⟨h0, _, _, by simp only [appA, hl]; rw [if_pos h1, if_neg h3, if_pos (by omega), if_pos h4], rfl⟩
        · obtain ⟨h3, h1, h4, h0, h2, h5⟩ := hb
          exact ⟨h0, _, _, by simp only [appA, hl]; rw [if_pos h1, if_neg h3, if_pos h2, if_neg (by omega), if_pos h5], rfl⟩
    · simp at hm
theorem alts_ok {P : Prog} {call : CallT} {nx : Nat} {ev : Opd → AV} {h : Heap} {io : IOp} {r : Res × Heap × Bool} (hm : (true, r) ∈ alts nx ev h io) : opS P call nx ev h io = some r := by
  cases io <;> simp only [alts] at hm <;> try (simp at hm; done)
  case idxs x i =>
    split at hm
    · rename_i s k j hx hi
      simp only [List.mem_cons, Prod.mk.injEq, List.not_mem_nil, or_false] at hm
      obtain ⟨hb, rfl⟩ := hm
      obtain ⟨c, hc⟩ := atIdx_inB hb.symm
      simp [opS, hx, hi, hc, byteAt, val]
    · simp at hm
  case slc sz x lo hi =>
    split at hm
    · rename_i sz' es hx
      simp only [List.mem_cons, Prod.mk.injEq, List.not_mem_nil, or_false] at hm
      obtain ⟨hb, rfl⟩ := hm
      simp only [eq_comm (a := true), Bool.and_eq_true, decide_eq_true_eq] at hb
      simp [opS, hx, bounds_of hb.2, hb.1, val, cutL_eq]
    · rename_i id off len hx
      split at hm
      · rename_i sz' es fz hl
        simp only [List.mem_cons, Prod.mk.injEq, List.not_mem_nil, or_false] at hm
        obtain ⟨hb, rfl⟩ := hm
        simp only [eq_comm (a := true), Bool.and_eq_true, decide_eq_true_eq] at hb
        obtain ⟨h1, h2, h3⟩ := hb
        rw [lenO_none] at h2
        simp [opS, hx, hl, bounds_of h2, h1, endB_of h3, val]
      · simp at hm
    · simp at hm
  case slcs x lo hi =>
    split at hm
    · rename_i s hx
      simp only [List.mem_cons, Prod.mk.injEq, List.not_mem_nil, or_false] at hm
      obtain ⟨hb, rfl⟩ := hm
      simp [opS, hx, bounds_of hb.symm, val, cutL_eq]
    · simp at hm
  case slc3 x lo hi mx =>
    split at hm
    · rename_i k1 l k2 u k3 m h1 h2 h3
      split at hm
      · rename_i sz es hx
        simp only [List.mem_cons, Prod.mk.injEq, List.not_mem_nil, or_false] at hm
        obtain ⟨hb, rfl⟩ := hm
        simp only [eq_comm (a := true), Bool.and_eq_true, decide_eq_true_eq] at hb
        simp [opS, h1, h2, h3, hx, hb, val]
      · rename_i id off len hx
        split at hm
        · rename_i sz es fz hl
          simp only [List.mem_cons, Prod.mk.injEq, List.not_mem_nil, or_false] at hm
          obtain ⟨hb, rfl⟩ := hm
          simp only [eq_comm (a := true), Bool.and_eq_true, decide_eq_true_eq] at hb
          simp only [opS, h1, h2, h3, hx, hl]
          rw [if_pos ⟨hb.1.1.1, hb.1.1.2, hb.1.2⟩, if_pos hb.2]; rfl
        · simp at hm
      · simp at hm
    · simp at hm
  case iaddr sz ks x i =>
    split at hm
    · rename_i id off len k j hx hi
      split at hm
      · rename_i sz' es fz hl
        simp only [List.mem_cons, Prod.mk.injEq, List.not_mem_nil, or_false] at hm
        obtain ⟨hb, rfl⟩ := hm
        simp only [eq_comm (a := true), Bool.and_eq_true, decide_eq_true_eq] at hb
        obtain ⟨h1, h2, h3⟩ := ownB_of hb.2
        simp [opS, hx, hi, hl, hb.1, h1, h2, h3, val]
      · simp at hm
    · simp at hm
  case eqn k neg x y =>
    split at hm
    · rename_i h1 h2
      simp only [List.mem_cons, Prod.mk.injEq, List.not_mem_nil, or_false] at hm
      obtain ⟨hb, rfl⟩ := hm
      simp only [eq_comm (a := true), decide_eq_true_eq] at hb
      simp only [opS, h1, h2, isNilK, if_neg hb]
      cases neg <;> simp [val]
    · rename_i h1 h2
      simp only [List.mem_cons, Prod.mk.injEq, List.not_mem_nil, or_false] at hm
      obtain ⟨hb, rfl⟩ := hm
      simp only [eq_comm (a := true), decide_eq_true_eq] at hb
      simp only [opS, h1, h2, isNilK, if_neg hb]
      cases neg <;> simp [val]
    · simp at hm
  case app sz bytes s x =>
    split at hm
    · rename_i b src hs
      obtain ⟨rfl, v, h', h1, rfl⟩ := appAlts_ok hm
      simp only [opS, srcK_of hs, h1]
    · simp at hm
  case clr sz z x =>
    split at hm
    · rename_i id off len hx
      split at hm
      · rename_i sz' es hl
        simp only [List.mem_cons, Prod.mk.injEq, List.not_mem_nil, or_false] at hm
        obtain ⟨hb, rfl⟩ := hm
        simp only [eq_comm (a := true), Bool.and_eq_true, decide_eq_true_eq] at hb
        simp [opS, hx, hl, hb]
      · simp at hm
    · simp at hm
  case mks sz bytes z l c =>
    split at hm
    · rename_i k1 l' k2 c' h1 h2
      simp only [List.mem_cons, Prod.mk.injEq, List.not_mem_nil, or_false] at hm
      obtain ⟨hb, rfl⟩ := hm
      simp only [eq_comm (a := true), Bool.and_eq_true, decide_eq_true_eq, room] at hb
      simp [opS, h1, h2, hb]
    · simp at hm
  case mupd ks m k v =>
    split at hm
    · rename_i id hx
      split at hm
      · rename_i kvs h1 h2 h3
        simp only [List.mem_cons, Prod.mk.injEq, List.not_mem_nil, or_false] at hm
        obtain ⟨hb, rfl⟩ := hm
        simp only [eq_comm (a := true), mputB, Bool.and_eq_true] at hb
        obtain ⟨kvs', hk⟩ := Option.isSome_iff_exists.1 hb.2
        simp [opS, hx, h1, h2, h3, hb.1, hk, mputK]
      · simp at hm
    · simp at hm
  case mdel ks m k =>
    split at hm
    · rename_i id hx
      split at hm
      · rename_i kvs h3
        simp only [List.mem_cons, Prod.mk.injEq, List.not_mem_nil, or_false] at hm
        obtain ⟨hb, rfl⟩ := hm
        simp only [eq_comm (a := true), mcutB, Bool.and_eq_true] at hb
        obtain ⟨kvs', hk⟩ := Option.isSome_iff_exists.1 hb.2
        simp [opS, hx, h3, hb.1, hk, mcutK]
      · simp at hm
    · simp at hm
  case bin op x y =>
    cases op <;> simp only [alts] at hm <;> try (simp at hm; done)
    all_goals
      split at hm
      · rename_i h1 h2
        simp only [List.mem_cons, Prod.mk.injEq, List.not_mem_nil, or_false] at hm
        obtain ⟨hb, rfl⟩ := hm
        simp only [eq_comm (a := true), Bool.and_eq_true, decide_eq_true_eq] at hb
        simp [opS, h1, h2, binA, binI, binS, hb, valO]
      · simp at hm
def snapV (h : Heap) : Nat → AV → AV
  | 0, v => v
  | n + 1, v => match v with
    | .nils q => .view q.sz []
    | .own id off lo => match hlook h id with
      | some (.arr sz es _) => .view sz (takeO es off lo)
      | _ => .junk
    | .ref id _ off => match hlook h id with
      | some (.box cs _) => .ptr ((cs.map (snapV h n)).drop off)
      | _ => .junk
    | .agg cs => .agg (cs.map (snapV h n))
    | .tup vs => .tup (vs.map (snapV h n))
    | .fn f cap => .fn f (cap.map (snapV h n))
    | .iface t v => .iface t (snapV h n v)
    | v => v
def snapB (h : Heap) : Nat → AV → Bool
  | 0, _ => false
  | n + 1, v => match v with
    | .own id off lo => match hlook h id with
      | some (.arr _ es _) => match lo with
        | some len => decide (off + len ≤ es.length)
        | none => true
      | _ => false
    | .ref id idx off => match hlook h id with
      | some (.box cs _) => decide (idx = 0 ∧ off ≤ cs.length ∧ cellsOk cs = true) && cs.all (snapB h n)
      | _ => false
    | .mref _ => false
    | .agg cs => cs.all (snapB h n)
    | .tup vs => vs.all (snapB h n)
    | .fn _ cap => cap.all (snapB h n)
    | .iface _ v => snapB h n v
    | _ => true
theorem snap_of {h : Heap} : ∀ (n : Nat) (v : AV), snapB h n v = true → snap h n v = some (snapV h n v)
  | 0, v, hb => by simp [snapB] at hb
  | n + 1, v, hb => by
    have hl : ∀ vs : List AV, vs.all (snapB h n) = true → snapLW (snap h n) vs = some (vs.map (snapV h n)) := by
      intro vs
      induction vs with
      | nil => intro _; rfl
      | cons v vs ih =>
        intro hb
        simp only [List.all_cons, Bool.and_eq_true] at hb
        simp only [snapLW, List.map_cons, snap_of n v hb.1, ih hb.2]
    cases v <;> simp only [snapB, snap, snapV] at hb ⊢
    case own id off lo =>
      split at hb
      · rename_i hk
        simp only [hk]
        cases lo with
        | some len => simp only at hb ⊢; rw [if_pos (of_decide_eq_true hb)]
        | none => rfl
      · cases hb
    case ref id idx off =>
      split at hb
      · rename_i hk
        simp only [Bool.and_eq_true] at hb
        simp only [hk]
        rw [if_pos (of_decide_eq_true hb.1), hl _ hb.2]; rfl
      · cases hb
    case mref => cases hb
    case agg cs => rw [hl _ hb]; rfl
    case tup cs => rw [hl _ hb]; rfl
    case fn f cs => rw [hl _ hb]; rfl
    case iface t v => rw [snap_of n v hb]; rfl
end Go.Eng
namespace Go.Eng
def br {R : Type} (b : Bool) (x y : R) : R := match b with
  | true => x
  | false => y
theorem br_some {R : Type} {b : Bool} {x : Option R} {r : R} (h : br b x none = some r) : b = true ∧ x = some r := by
  cases b with
  | true => exact ⟨rfl, h⟩
  | false => cases h
def tset : Env → Nat → AV → Env
  | [], _, _ => []
  | (j, v) :: e, t, u => if t = j then (j, u) :: e else (j, v) :: tset e t u
theorem tset_same : ∀ {e : Env} {t : Nat} {v : AV}, tget e t = v → v ≠ .junk → tset e t v = e
  | [], t, v, h, hj => rfl
  | (j, u) :: e, t, v, h, hj => by
    simp only [tget] at h
    simp only [tset]
    split
    · rename_i he; rw [if_pos he] at h; rw [h]
    · rename_i he; rw [if_neg he] at h; rw [tset_same h hj]
section
variable {R : Type}
abbrev CallK (R : Type) := Nat → List AV → Heap → (Res → Heap → Option R) → Option R
abbrev LoopK (R : Type) := List Nat → ICode → St → (X → St → Option R) → Option R
def intOf : AV → Int
  | .int _ n => n
  | _ => 0
def boolOf : AV → Bool
  | .bool b => b
  | _ => false
def strOf : AV → List UInt8
  | .str s => s
  | _ => []
def viewOf : AV → List AV
  | .view _ es => es
  | _ => []
def ptrOf : AV → List AV
  | .ptr cs => cs
  | _ => []
def isNilp : AV → Bool
  | .nilp => true
  | _ => false
def okC : CS → AV → Bool
  | .int k, .int k' _ => decide (k' = k)
  | .bool, .bool _ => true
  | .str, .str _ => true
  | .slice k, .view sz _ => decide (sz = k)
  | .ptr _, .nilp => true
  | .ptr _, .ptr _ => true
  | _, _ => false
def okCs : List CS → List AV → Bool
  | [], [] => true
  | c :: cs, x :: xs => okC c x && okCs cs xs
  | _, _ => false
def okAt (ks : List CS) (es : List AV) (i : Int) : Bool := match atIdx es i with
  | some e => okCs ks (cellsA e)
  | none => false
def cellAt (es : List AV) (i : Int) (j : Nat) : AV := (cellsA ((atIdx es i).getD .junk))[j]?.getD .junk
def openC (c : CS) (x : AV) (K : AV → Option R) : Option R := match c with
  | .int k => K (.int k (intOf x))
  | .bool => K (.bool (boolOf x))
  | .str => K (.str (strOf x))
  | .slice k => K (.view k (viewOf x))
  | .ptr _ => br (isNilp x) (K .nilp) (K (.ptr (ptrOf x)))
def openAt (es : List AV) (i : Int) : Nat → List CS → (List AV → Option R) → Option R
  | _, [], K => K []
  | j, c :: cs, K => openC c (cellAt es i j) fun x => openAt es i (j + 1) cs fun r => K (x :: r)
theorem openC_eq {c : CS} {x : AV} (h : okC c x = true) {K : AV → Option R} : openC c x K = K x := by
  cases c <;> cases x <;> simp_all [okC, openC, intOf, boolOf, strOf, isNilp, viewOf, ptrOf, br]
theorem openAt_eq {es : List AV} {i : Int} {e : AV} (he : atIdx es i = some e) : ∀ (ks : List CS) (j : Nat) {K : List AV → Option R}, okCs ks ((cellsA e).drop j) = true → openAt es i j ks K = K ((cellsA e).drop j)
  | [], j, K, h => by
    cases hd : (cellsA e).drop j with
    | nil => rfl
    | cons => rw [hd] at h; simp [okCs] at h
  | c :: cs, j, K, h => by
    cases hd : (cellsA e).drop j with
    | nil => rw [hd] at h; simp [okCs] at h
    | cons x xs =>
      rw [hd] at h
      simp only [okCs, Bool.and_eq_true] at h
      have hx : cellAt es i j = x := by
        have h0 := congrArg (·[0]?) hd
        simp only [List.getElem?_drop, Nat.add_zero, List.getElem?_cons_zero] at h0
        simp [cellAt, he, h0]
      have hxs : (cellsA e).drop (j + 1) = xs := by
        have h0 := congrArg (List.drop 1) hd
        simpa using h0
      simp only [openAt, hx, openC_eq h.1]
      have := openAt_eq he cs (j + 1) (K := fun r => K (x :: r)) (by rw [hxs]; exact h.2)
      rw [this, hxs]
def prepLK (h : Heap) (all : Bool) : List AV → (List AV → List Nat → Option R) → Option R
  | [], K => K [] []
  | v :: vs, K => if isRefA v || all then prepLK h all vs fun vs b => K (v :: vs) ([] ++ b) else match idsA v with
    | [] => prepLK h all vs fun vs b => K (nz v :: vs) ([] ++ b)
    | ids => br (snapB h purse v) (prepLK h all vs fun vs b => K (snapV h purse v :: vs) (ids ++ b)) none
theorem prepLK_sound {h : Heap} {all : Bool} {ρ : R} : ∀ {vs : List AV} {K : List AV → List Nat → Option R}, prepLK h all vs K = some ρ → ∃ a b, prepL h all vs = some (a, b) ∧ K a b = some ρ
  | [], K, hs => ⟨_, _, rfl, hs⟩
  | v :: vs, K, hs => by
    simp only [prepLK] at hs
    split at hs
    · rename_i hc
      obtain ⟨a, b, h1, h2⟩ := prepLK_sound hs
      exact ⟨_, _, by simp only [prepL, prep, hc, if_true, h1], h2⟩
    · rename_i hc
      split at hs
      · rename_i hi
        obtain ⟨a, b, h1, h2⟩ := prepLK_sound hs
        refine ⟨_, _, ?_, h2⟩
        simp only [prepL, prep, h1]
        rw [if_neg hc, hi]
      · rename_i ids hi
        obtain ⟨hb, hs⟩ := br_some hs
        obtain ⟨a, b, h1, h2⟩ := prepLK_sound hs
        refine ⟨_, _, ?_, h2⟩
        simp only [prepL, prep, h1, if_neg hc, snap_of _ _ hb]
def callAK (P : Prog) (cK : CallK R) (h : Heap) (nx f : Nat) (args : List AV) (K : Res × Heap × Bool → Option R) : Option R :=
  prepLK h (P.mv f) args fun args' roots =>
    match reach purse h (idsA.idsL args') [], reach purse h roots [] with
    | some moved, some shown =>
      if disj moved shown then
        cK f (ren.renL (place moved) args') (renH (place moved) (sub h moved)) fun r h' =>
          if h'.all (fun p => decide (p.1 < moved.length + 16)) then
            let touched := !shown.isEmpty && (shows (resV r) || !h'.isEmpty)
            let old := without h moved
            K (mapRes (ren (back moved nx)) r, renH (back moved nx) h' ++ (if touched then freeze old shown else old), !moved.isEmpty || touched)
          else none
      else none
    | _, _ => none
def noCall : CallT := fun _ _ _ => none
def tryK (K : Res × Heap × Bool → Option R) : List Alt → Option R
  | [] => none
  | (b, r) :: l => br b (K r) (tryK K l)
def dfltK (P : Prog) (nx : Nat) (ev : Opd → AV) (h : Heap) (io : IOp) (K : Res × Heap × Bool → Option R) : Option R :=
  match alts nx ev h io with
  | [] => match opS P noCall nx ev h io with
    | some r => K r
    | none => none
  | l => tryK K l
def okE (ag : Bool) (ks : List CS) (es : List AV) (i : Int) : Bool := match atIdx es i with
  | some (.agg cs) => ag && okCs ks cs
  | some e => !ag && okCs ks [e]
  | none => false
def elemG (ag : Bool) (cs : List AV) : AV := match ag, cs with
  | true, cs => .agg cs
  | false, [v] => v
  | false, _ => .junk
theorem okE_at {ag : Bool} {ks : List CS} {es : List AV} {i : Int} (h : okE ag ks es i = true) : ∃ e, atIdx es i = some e ∧ okCs ks (cellsA e) = true ∧ ∀ cs, elemOf e cs = elemG ag cs := by
  simp only [okE] at h
  split at h
  · rename_i cs he
    simp only [Bool.and_eq_true] at h
    exact ⟨_, he, h.2, fun cs' => by simp [elemOf, elemG, h.1]⟩
  · rename_i e hne he
    simp only [Bool.and_eq_true, Bool.not_eq_true'] at h
    have hc : cellsA e = [e] := by cases e <;> first | rfl | exact absurd rfl (hne _)
    refine ⟨_, he, by rw [hc]; exact h.2, fun cs' => ?_⟩
    rw [h.1]
    cases e <;> first | exact absurd rfl (hne _) | (rcases cs' with _ | ⟨v, _ | ⟨w, vs⟩⟩ <;> rfl)
  · cases h
def csZ : AV → Option CS
  | .int k _ => some (.int k)
  | .bool _ => some .bool
  | .str _ => some .str
  | .nils q => some (.slice q.sz)
  | .view k _ => some (.slice k)
  | _ => none
def csZL : List AV → Option (List CS)
  | [] => some []
  | v :: vs => match csZ v, csZL vs with
    | some c, some cs => some (c :: cs)
    | _, _ => none
def ksZ : AV → Option (Bool × List CS)
  | .agg cs => (csZL cs).map fun ks => (true, ks)
  | v => (csZ v).map fun k => (false, [k])
def mval (ks : Key) (m : List (AV × AV)) (k : AV) : AV := match mfind ks m k with
  | some (some v) => v
  | _ => .junk
def mhas (ks : Key) (m : List (AV × AV)) (k : AV) : Bool := isKey ks k && match mfind ks m k with
  | some (some _) => true
  | _ => false
def mnot (ks : Key) (m : List (AV × AV)) (k : AV) : Bool := isKey ks k && match mfind ks m k with
  | some none => true
  | _ => false
def cellN (es : List AV) (i j : Nat) : AV := (cellsA (es[i]?.getD .junk))[j]?.getD .junk
def okP (ks : List CS) (es : List AV) (i off : Nat) : Bool := match es[i]? with
  | some e => okCs ks (((cellsA e).drop off).take ks.length)
  | none => false
def openP (es : List AV) (i : Nat) : Nat → List CS → (List AV → Option R) → Option R
  | _, [], K => K []
  | j, c :: cs, K => openC c (cellN es i j) fun x => openP es i (j + 1) cs fun r => K (x :: r)
theorem openP_eq {es : List AV} {i : Nat} {e : AV} (he : es[i]? = some e) : ∀ (ks : List CS) (j : Nat) {K : List AV → Option R}, okCs ks (((cellsA e).drop j).take ks.length) = true → openP es i j ks K = K (((cellsA e).drop j).take ks.length)
  | [], j, K, h => by simp [openP]
  | c :: cs, j, K, h => by
    cases hd : (cellsA e).drop j with
    | nil => rw [hd] at h; simp [okCs] at h
    | cons x xs =>
      rw [hd] at h
      simp only [List.length_cons, List.take_succ_cons, okCs, Bool.and_eq_true] at h
      have hx : cellN es i j = x := by
        have h0 := congrArg (·[0]?) hd
        simp only [List.getElem?_drop, Nat.add_zero, List.getElem?_cons_zero] at h0
        simp [cellN, he, h0]
      have hxs : (cellsA e).drop (j + 1) = xs := by
        have h0 := congrArg (List.drop 1) hd
        simpa using h0
      simp only [openP, hx, openC_eq h.1, List.length_cons, List.take_succ_cons]
      have := openP_eq he cs (j + 1) (K := fun r => K (x :: r)) (by rw [hxs]; exact h.2)
      rw [this, hxs]
theorem okCs_len : ∀ {ks : List CS} {xs : List AV}, okCs ks xs = true → xs.length = ks.length
  | [], [], _ => rfl
  | [], _ :: _, h => by simp [okCs] at h
  | _ :: _, [], h => by simp [okCs] at h
  | k :: ks, x :: xs, h => by
    simp only [okCs, Bool.and_eq_true] at h
    simp [okCs_len h.2]
def setE (es : List AV) (i off : Nat) (vs : List AV) : List AV := match es[i]? with
  | some e => es.set i (elemOf e (splice (cellsA e) off vs))
  | none => es
def okS (es : List AV) (i off n : Nat) : Bool := match es[i]? with
  | some e => decide (off + n ≤ (cellsA e).length)
  | none => false
def stillK (h : Heap) (v : AV) (K : AV → Heap → Option R) : Option R := match idsA v with
  | [] => K (nz v) h
  | ids => match reach purse h ids [] with
    | some r => br (snapB h purse v) (K (snapV h purse v) (freeze h r)) none
    | none => none
theorem stillK_sound {h : Heap} {v : AV} {K : AV → Heap → Option R} {ρ : R} (hs : stillK h v K = some ρ) : ∃ v' h', still h v = some (v', h') ∧ K v' h' = some ρ := by
  simp only [stillK] at hs
  split at hs
  · rename_i hi
    exact ⟨_, _, by simp only [still, hi], hs⟩
  · rename_i ids hi
    split at hs
    · rename_i r hr
      obtain ⟨hb, hs⟩ := br_some hs
      refine ⟨_, _, ?_, hs⟩
      cases hq : idsA v with
      | nil => exact absurd hq hi
      | cons i is =>
        rw [hq] at hr
        simp only [still, hq, snap_of _ _ hb, hr]
    · cases hs
def idxK (agg : Bool) (sz : Nat) (cs : List AV) (j : Int) (h : Heap) (K : Res × Heap × Bool → Option R) : Nat → Nat → Option R
  | 0, _ => none
  | r + 1, k => br (decide (j = Int.ofNat k)) (if k * sz ≤ cs.length then match part agg sz (cs.drop (k * sz)) with
      | some v => K (.ret v, h, false)
      | none => none else none) (idxK agg sz cs j h K r (k + 1))
def litK (F : Nat → Option R) (j : Int) : Nat → Nat → Option R
  | 0, _ => none
  | r + 1, k => br (decide (j = Int.ofNat k)) (F k) (litK F j r (k + 1))
def adrK (sz : Nat) (v : AV) (h : Heap) (K : Res × Heap × Bool → Option R) (k : Nat) : Option R := match v with
  | .ptr cs => if k * sz ≤ cs.length then K (.ret (.ptr (cs.drop (k * sz))), h, false) else none
  | .ref id idx o => K (.ret (.ref id idx (o + k * sz)), h, false)
  | _ => none
def opK (P : Prog) (cK : CallK R) (nx : Nat) (ev : Opd → AV) (h : Heap) (io : IOp) (K : Res × Heap × Bool → Option R) : Option R :=
  match io with
  | .iaddr sz ks x i => match ks, ev x, ev i with
    | _ :: _, .view sz' es, .int _ j => if sz' = sz then br (okAt ks es j) (openAt es j 0 ks fun cs => K (.ret (.ptr cs), h, false)) none else none
    | _, _, _ => dfltK P nx ev h (.iaddr sz ks x i) K
  | .load agg n ks x => match ev x with
    | .ref id idx off => match hlook h id with
      | some (.arr _ es _) => if ks.length = n ∧ 0 < n ∧ (agg = true ∨ n = 1) then
          br (okP ks es idx off) (openP es idx off ks fun cs => K (.ret (if agg then .agg cs else cs.headD .junk), h, false)) none
        else none
      | _ => dfltK P nx ev h (.load agg n ks x) K
    | _ => dfltK P nx ev h (.load agg n ks x) K
  | .store n x v => match ev x with
    | .ref id idx off => match hlook h id with
      | some (.arr _ es false) => stillK h (ev v) fun v h => match hlook h id with
        | some (.arr sz _ false) => if (cellsA v).length = n ∧ cellsOk (cellsA v) = true then
            br (okS es idx off n) (K (.ret unit, hput h id (.arr sz (setE es idx off (cellsA v)) false), true)) none
          else none
        | _ => none
      | _ => dfltK P nx ev h (.store n x v) K
    | _ => dfltK P nx ev h (.store n x v) K
  | .look ks z ok m k => match ev m with
    | .mref id => match hlook h id with
      | some (.mp kvs) => match ksZ z with
        | some (ag, cs) => br (mhas ks kvs (ev k)) (br (okE ag cs [mval ks kvs (ev k)] 0) (openAt [mval ks kvs (ev k)] 0 0 cs fun cs => K (.ret (if ok then .tup [elemG ag cs, .bool true] else elemG ag cs), h, false)) none)
            (br (mnot ks kvs (ev k)) (K (.ret (if ok then .tup [z, .bool false] else z), h, false)) none)
        | none => dfltK P nx ev h (.look ks z ok m k) K
      | _ => dfltK P nx ev h (.look ks z ok m k) K
    | _ => dfltK P nx ev h (.look ks z ok m k) K
  | .pick c a b => match ev c with
    | .bool t => br t (K (.ret (ev a), h, false)) (K (.ret (ev b), h, false))
    | _ => none
  | .idxa agg n sz x i => match ev x, ev i with
    | .agg cs, .int _ j => if n ≤ 16 then idxK agg sz cs j h K n 0 else dfltK P nx ev h (.idxa agg n sz x i) K
    | _, _ => none
  | .aaddr n sz x i => match ev i with
    | .int _ j => if n ≤ 16 then litK (adrK sz (ev x) h K) j n 0 else dfltK P nx ev h (.aaddr n sz x i) K
    | _ => none
  | .call f args => callAK P cK h nx f (args.map ev) K
  | .callv fv args => match ev fv with
    | .fn (.func f) cap => callAK P cK h nx f (args.map ev ++ cap) K
    | _ => none
  | .invk tbl x args => match ev x with
    | .iface t v => match tfind tbl t with
      | some f => callAK P cK h nx f (v :: args.map ev) K
      | none => none
    | _ => none
  | io => dfltK P nx ev h io K
def wantK (e : Env) (g : Option (Nat × Bool)) (K : Env → Bool → Option R) : Option R := match g with
  | none => K e true
  | some (t, want) => match tget e t with
    | .bool b => br b (K (tset e t (.bool true)) want) (K (tset e t (.bool false)) (!want))
    | .tup [] => K e false
    | _ => none
def stepK (P : Prog) (cK : CallK R) (nx : Nat) (o : IOper) (e : Env) (h : Heap) (K : Env → Step → Option R) : Option R :=
  wantK e o.guard fun e b => match b with
    | false => K e .skip
    | true => match reach purse h (rtsO e o.op) [] with
      | none => none
      | some r => opK P cK nx (evalO e) (sub h r) o.op fun x => match x with
        | (.ret v, out, w) => K e (.did r w v out)
        | (.pan v, out, _) => K e (.pan r v out)
def sm {α : Type} (o : Option α) : Bool := match o with
  | some _ => true
  | none => false
def gv {α : Type} [Inhabited α] (o : Option α) : α := match o with
  | some x => x
  | none => default
@[simp] theorem sm_some {α : Type} (x : α) : sm (some x) = true := rfl
@[simp] theorem sm_none {α : Type} : sm (none : Option α) = false := rfl
@[simp] theorem gv_some {α : Type} [Inhabited α] (x : α) : gv (some x) = x := rfl
theorem sm_of {α : Type} [Inhabited α] {o : Option α} (h : sm o = true) : o = some (gv o) := by cases o <;> first | rfl | cases h
def frcA : AV → (AV → Option R) → Option R
  | .int k n, K => K (.int k n)
  | .bool b, K => K (.bool b)
  | .str s, K => K (.str s)
  | .nilp, K => K .nilp
  | .nilm, K => K .nilm
  | .nilf, K => K .nilf
  | .nili, K => K .nili
  | .nils ⟨n, .nil⟩, K => K (.nils ⟨n, .nil⟩)
  | .nils ⟨n, .any⟩, K => K (.nils ⟨n, .any⟩)
  | .nils ⟨n, .non⟩, K => K (.nils ⟨n, .non⟩)
  | .agg cs, K => frcL cs fun cs => K (.agg cs)
  | .tup cs, K => frcL cs fun cs => K (.tup cs)
  | .view n es, K => K (.view n es)
  | .ptr cs, K => frcL cs fun cs => K (.ptr cs)
  | .own a b c, K => K (.own a b c)
  | .ref a b c, K => K (.ref a b c)
  | .mref a, K => K (.mref a)
  | .fn f cs, K => frcL cs fun cs => K (.fn f cs)
  | .iface t v, K => frcA v fun v => K (.iface t v)
  | .junk, K => K .junk
where frcL : List AV → (List AV → Option R) → Option R
  | [], K => K []
  | v :: vs, K => frcA v fun v => frcL vs fun vs => K (v :: vs)
mutual
theorem frcA_eq : ∀ (v : AV) (K : AV → Option R), frcA v K = K v
  | .nils ⟨_, k⟩, K => by cases k <;> simp only [frcA]
  | .int .., K | .bool .., K | .str .., K | .nilp, K | .nilm, K | .nilf, K | .nili, K | .view .., K | .own .., K | .ref .., K | .mref _, K | .junk, K => by simp only [frcA]
  | .agg cs, K => by simp only [frcA]; exact frcL_eq cs _
  | .tup cs, K => by simp only [frcA]; exact frcL_eq cs _
  | .ptr cs, K => by simp only [frcA]; exact frcL_eq cs _
  | .fn f cs, K => by simp only [frcA]; exact frcL_eq cs _
  | .iface t v, K => by simp only [frcA]; exact frcA_eq v _
theorem frcL_eq : ∀ (vs : List AV) (K : List AV → Option R), frcA.frcL vs K = K vs
  | [], K => by simp only [frcA.frcL]
  | v :: vs, K => by simp only [frcA.frcL]; rw [frcA_eq v]; exact frcL_eq vs _
end
def frcB : Blk → (Blk → Option R) → Option R
  | .box cs true, K => frcA.frcL cs fun cs => K (.box cs true)
  | .box cs false, K => frcA.frcL cs fun cs => K (.box cs false)
  | .arr sz es true, K => K (.arr sz es true)
  | .arr sz es false, K => K (.arr sz es false)
  | .mp kvs, K => K (.mp kvs)
theorem frcB_eq (b : Blk) (K : Blk → Option R) : frcB b K = K b := by
  cases b with
  | box cs fz => cases fz <;> simp only [frcB] <;> exact frcL_eq _ _
  | arr sz es fz => cases fz <;> rfl
  | mp kvs => rfl
def frcN (n : Nat) (K : Nat → Option R) : Option R := match n with
  | 0 => K 0
  | n + 1 => K (n + 1)
theorem frcN_eq (n : Nat) (K : Nat → Option R) : frcN n K = K n := by cases n <;> rfl
def frcH : Heap → (Heap → Option R) → Option R
  | [], K => K []
  | (i, b) :: h, K => frcN i fun i => frcB b fun b => frcH h fun h => K ((i, b) :: h)
theorem frcH_eq : ∀ (h : Heap) (K : Heap → Option R), frcH h K = K h
  | [], K => rfl
  | (i, b) :: h, K => by simp only [frcH]; rw [frcN_eq, frcB_eq]; exact frcH_eq h _
def frcE : Env → (Env → Option R) → Option R
  | [], K => K []
  | (i, v) :: h, K => frcE h fun h => K ((i, v) :: h)
theorem frcE_eq : ∀ (h : Env) (K : Env → Option R), frcE h K = K h
  | [], K => rfl
  | (i, v) :: h, K => by simp only [frcE]; exact frcE_eq h _
def pureK (P : Prog) (cK : CallK R) : List IOper → Env → Heap → Nat → (Env → Option R) → Option R
  | [], e, _, _, K => K e
  | o :: ops, e, h, nx, K => stepK P cK nx o e h fun e s => match s with
    | .skip => pureK P cK ops (trimE o (afterE e o.dst .skip)) h (nx + 16) K
    | .did r w v out => match w, out.all (fun p => r.contains p.1) with
      | false, true => frcA v fun v => frcN (nx + 16) fun nx => frcE (trimE o (putO e o.dst v)) fun e => pureK P cK ops e h nx K
      | _, _ => none
    | .pan _ _ _ => none
def grpEnd (t : Nat) : List IOper → Option (List IOper × IOper × List IOper)
  | [] => none
  | o :: os => match o.op with
    | .pick (.t c) _ _ => match Nat.beq c t with
      | true => some ([], o, os)
      | false => match grpEnd t os with
        | some (g, p, r) => some (o :: g, p, r)
        | none => none
    | _ => match grpEnd t os with
      | some (g, p, r) => some (o :: g, p, r)
      | none => none
def calmO : IOp → Bool
  | .bslice .. | .app .. | .store .. | .mupd .. | .mdel .. | .clr .. | .alloc .. | .box .. | .mkm | .mks .. | .pan .. => false
  | _ => true
def within (c d : Nat) (o : IOper) : Bool := (match o.dst with
  | some j => Nat.blt c j && Nat.blt j d
  | none => false) && calmO o.op && match o.op with
  | .pick (.t k) _ _ => Nat.ble c k
  | _ => true
def grpOf (o : IOper) (ops : List IOper) : Option (Nat × Nat × List IOper × IOper × List IOper) := match o.guard with
  | none => none
  | some (t, _) => match grpEnd t ops with
    | none => none
    | some (g, p, r) => match p.guard, p.dst with
      | none, some d => match (o :: g).all (within t d) with
        | true => some (t, d, o :: g, p, r)
        | false => none
      | _, _ => none
def boolV (d : Nat) (e : Env) : Option Bool := match tget e d with
  | .bool b => some b
  | _ => none
def runK (P : Prog) (cK : (R : Type) → CallK R) : Nat → List IOper → Env → Heap → Nat → (X → Env → Heap → Option R) → Option R
  | 0, _, _, _, _, _ => none
  | _ + 1, [], e, h, _, K => K .normal e h
  | n + 1, o :: ops, e, h, nx, K => match grpOf o ops with
    | some (t, d, g, p, rest) =>
      let v := pureK P (cK Bool) g e h nx fun e1 => pureK P (cK Bool) [p] e1 h (nx + 16 * g.length) (boolV d)
      br (sm v) (frcN (nx + 16 * (g.length + 1)) fun nx => frcE (killE t d e) fun e => runK P cK n rest ((d, .bool (gv v)) :: e) h nx K) none
    | none => stepK P (cK R) nx o e h fun e s => match s with
      | .pan r v out => K (.pan v) e (afterH h (.pan r v out))
      | .skip => runK P cK n ops (trimE o (afterE e o.dst .skip)) h (nx + 16) K
      | .did r w v out => frcA v fun v => frcH (afterH h (.did r w v out)) fun h => frcN (nx + 16) fun nx => frcE (trimE o (putO e o.dst v)) fun e => runK P cK n ops e h nx K
def anyK (P : Prog) (cK : CallK R) (base : Nat) : Nat → List IOper → Env → Heap → List Step → (Env → Heap → List Step → Option R) → Option R
  | _, [], e, h, log, K => K e h log
  | i, o :: ops, e, h, log, K => stepK P cK (base + 16 * i) o e h fun e s =>
    if tidy (base + 16 * i) (idsOf e o) h s then match lost h (idsOf e o) s with
      | [] => anyK P cK base (i + 1) ops (afterE e o.dst s) (afterH h s) (log ++ [s]) K
      | q :: g => anyK P cK base (i + 1) ops (afterE e o.dst s) (afterH h s) (log ++ [mark (q :: g) s]) K
    else none
def execK (P : Prog) (cK : (R : Type) → CallK R) (lK : LoopK R) : ICode → St → (X → St → Option R) → Option R
  | .skip, s, K => K .normal s
  | .region ops d, s, K => match d with
    | none => runK P cK (ops.length + 1) ops s.tm s.hp s.nx fun x e h => K x ⟨e, h, s.nx + 16 * ops.length, s.k⟩
    | some befs => anyK P (cK R) s.nx 0 ops s.tm s.hp [] fun e h log => if calm s.nx befs ops e log then K .normal ⟨e, h, s.nx + 16 * ops.length, s.k⟩ else none
  | .seq a b, s, K => execK P cK lK a s fun x s => match x with
    | .normal => execK P cK lK b s K
    | x => K x s
  | .cond c a b, s, K => match evalO s.tm c with
    | .bool t => br t (execK P cK lK a s K) (execK P cK lK b s K)
    | _ => none
  | .block id c, s, K => execK P cK lK c s fun x s => match x with
    | .exit j => if j = id then K .normal s else K (.exit j) s
    | x => K x s
  | .loop k c, s, K => lK k c s K
  | .exit id, s, K => K (.exit id) s
  | .ret, s, K => K .ret s
def CallS (call : CallT) (cK : CallK R) : Prop := ∀ f a h K ρ, cK f a h K = some ρ → ∃ r h', call f a h = some (r, h') ∧ K r h' = some ρ
def LoopS (loop : LoopT) (lK : LoopK R) : ICode → Prop
  | .seq a b => LoopS loop lK a ∧ LoopS loop lK b
  | .cond _ a b => LoopS loop lK a ∧ LoopS loop lK b
  | .block _ a => LoopS loop lK a
  | .loop k c => ∀ s K ρ, lK k c s K = some ρ → ∃ x s', loop k c s = some (x, s') ∧ K x s' = some ρ
  | _ => True
def loops : ICode → List (List Nat × ICode)
  | .seq a b => loops a ++ loops b
  | .cond _ a b => loops a ++ loops b
  | .block _ a => loops a
  | .loop k c => (k, c) :: loops c
  | _ => []
def loopAt (F : Fun) (i : Nat) : List Nat × ICode := (loops F.body).getD i ([], .skip)
variable {P : Prog} {call : CallT} {cK : CallK R} {loop : LoopT} {lK : LoopK R}
theorem callAK_sound (hc : CallS call cK) {h : Heap} {nx f : Nat} {args : List AV} {K : Res × Heap × Bool → Option R} {ρ : R} (hs : callAK P cK h nx f args K = some ρ) : ∃ r, callA P call h nx f args = some r ∧ K r = some ρ := by
  simp only [callAK] at hs
  obtain ⟨args', roots, hp, hs⟩ := prepLK_sound hs
  split at hs
  · rename_i moved shwn h1 h2
    split at hs
    · rename_i hd
      obtain ⟨r, h', hcl, hK⟩ := hc _ _ _ _ _ hs
      split at hK
      · rename_i hall
        refine ⟨_, ?_, hK⟩
        simp only [callA, hp, h1, h2, hd, if_true, hcl, hall]
      · cases hK
    · cases hs
  · cases hs
theorem noCall_le (call : CallT) : LeC noCall call := fun f a h r hr => by simp [noCall] at hr
theorem tryK_sound {K : Res × Heap × Bool → Option R} {ρ : R} : ∀ {l : List Alt}, tryK K l = some ρ → ∃ r, (true, r) ∈ l ∧ K r = some ρ
  | [], h => by cases h
  | (b, r) :: l, h => by
    cases b with
    | true => exact ⟨r, by simp, h⟩
    | false =>
      obtain ⟨r', h1, h2⟩ := tryK_sound (l := l) h
      exact ⟨r', by simp [h1], h2⟩
theorem dfltK_sound {nx : Nat} {ev : Opd → AV} {h : Heap} {io : IOp} {K : Res × Heap × Bool → Option R} {ρ : R} (hs : dfltK P nx ev h io K = some ρ) : ∃ r, opS P call nx ev h io = some r ∧ K r = some ρ := by
  simp only [dfltK] at hs
  split at hs
  · split at hs
    · rename_i r hr; exact ⟨r, opS_mono (noCall_le call) hr, hs⟩
    · cases hs
  · obtain ⟨r, h1, h2⟩ := tryK_sound hs
    exact ⟨r, alts_ok h1, h2⟩
theorem open_of {es : List AV} {i : Int} {ag : Bool} {ks : List CS} {K : List AV → Option R} {ρ : R} (hs : br (okE ag ks es i) (openAt es i 0 ks K) none = some ρ) : ∃ e, atIdx es i = some e ∧ K (cellsA e) = some ρ ∧ ∀ cs, elemOf e cs = elemG ag cs := by
  obtain ⟨hok, hs⟩ := br_some hs
  obtain ⟨e, he, hk, hel⟩ := okE_at hok
  have := openAt_eq he ks 0 (K := K) (by simpa using hk)
  rw [this] at hs
  exact ⟨e, he, by simpa using hs, hel⟩
theorem elemG_self {e : AV} {ag : Bool} (h : ∀ cs, elemOf e cs = elemG ag cs) : elemG ag (cellsA e) = e := by
  rw [← h]
  cases e <;> rfl
theorem freeze_sz {h : Heap} {r : List Nat} {id sz sz2 : Nat} {es es2 : List AV} {f1 f2 : Bool} (hl : hlook h id = some (.arr sz es f1)) (h2 : hlook (freeze h r) id = some (.arr sz2 es2 f2)) : sz = sz2 := by
  have : Globs := ⟨fun _ => none⟩
  rw [hlook_freeze] at h2
  split at h2
  · rw [hl] at h2; simp [freezeB] at h2; exact h2.1
  · rw [hl] at h2; simp at h2; exact h2.1
theorem still_sz {h h' : Heap} {v v' : AV} {id sz sz2 : Nat} {es es2 : List AV} {f1 f2 : Bool} (hl : hlook h id = some (.arr sz es f1)) (hst : still h v = some (v', h')) (h2 : hlook h' id = some (.arr sz2 es2 f2)) : sz = sz2 := by
  simp only [still] at hst
  split at hst
  · simp at hst
    obtain ⟨_, rfl⟩ := hst
    rw [hl] at h2; simp at h2; exact h2.1
  · split at hst
    · simp at hst
      obtain ⟨_, rfl⟩ := hst
      exact freeze_sz hl h2
    · cases hst
theorem idxK_sound {agg : Bool} {sz : Nat} {cs : List AV} {j : Int} {h : Heap} {K : Res × Heap × Bool → Option R} {ρ : R} : ∀ {r k : Nat}, idxK agg sz cs j h K r k = some ρ → ∃ q v, j = Int.ofNat q ∧ q < k + r ∧ q * sz ≤ cs.length ∧ part agg sz (cs.drop (q * sz)) = some v ∧ K (.ret v, h, false) = some ρ
  | 0, k, hs => by simp [idxK] at hs
  | r + 1, k, hs => by
    simp only [idxK] at hs
    by_cases hj : j = Int.ofNat k
    · have hd : decide (j = Int.ofNat k) = true := by simpa using hj
      rw [hd] at hs
      simp only [br] at hs
      split at hs
      · rename_i hle
        split at hs
        · rename_i v hv
          exact ⟨k, v, hj, by omega, hle, hv, hs⟩
        · cases hs
      · cases hs
    · have hd : decide (j = Int.ofNat k) = false := by simpa using hj
      rw [hd] at hs
      simp only [br] at hs
      obtain ⟨q, v, h1, h2, h3⟩ := idxK_sound hs
      exact ⟨q, v, h1, by omega, h3⟩
theorem litK_sound {F : Nat → Option R} {j : Int} {ρ : R} : ∀ {r k : Nat}, litK F j r k = some ρ → ∃ q, j = Int.ofNat q ∧ q < k + r ∧ F q = some ρ
  | 0, k, hs => by simp [litK] at hs
  | r + 1, k, hs => by
    simp only [litK] at hs
    by_cases hj : j = Int.ofNat k
    · have hd : decide (j = Int.ofNat k) = true := by simpa using hj
      rw [hd] at hs
      exact ⟨k, hj, by omega, hs⟩
    · have hd : decide (j = Int.ofNat k) = false := by simpa using hj
      rw [hd] at hs
      obtain ⟨q, h1, h2, h3⟩ := litK_sound (k := k + 1) hs
      exact ⟨q, h1, by omega, h3⟩
theorem opK_sound (hc : CallS call cK) {nx : Nat} {ev : Opd → AV} {h : Heap} {io : IOp} {K : Res × Heap × Bool → Option R} {ρ : R} (hs : opK P cK nx ev h io K = some ρ) : ∃ r, opS P call nx ev h io = some r ∧ K r = some ρ := by
  cases io <;> simp only [opK] at hs
  case idxa agg n sz x i =>
    split at hs
    · rename_i cs k j h1 h2
      split at hs
      · obtain ⟨q, v, rfl, hq, hle, hv, hs⟩ := idxK_sound hs
        refine ⟨_, ?_, hs⟩
        have e1 : (0 : Int) ≤ Int.ofNat q := Int.natCast_nonneg q
        have e2 : Int.ofNat q < (n : Int) := by show (q : Int) < (n : Int); omega
        have e3 : (Int.ofNat q).toNat = q := rfl
        simp only [opS, h1, h2, e3]
        rw [if_pos ⟨e1, e2, hle⟩, hv]
        rfl
      · exact dfltK_sound hs
    · cases hs
  case aaddr n sz x i =>
    split at hs
    · rename_i k j h2
      split at hs
      · obtain ⟨q, rfl, hq, hs⟩ := litK_sound hs
        have e1 : (0 : Int) ≤ Int.ofNat q := Int.natCast_nonneg q
        have e2 : Int.ofNat q < (n : Int) := by show (q : Int) < (n : Int); omega
        have e3 : (Int.ofNat q).toNat = q := rfl
        unfold adrK at hs
        split at hs
        · rename_i cs h1
          split at hs
          · rename_i hle
            refine ⟨_, ?_, hs⟩
            simp only [opS, h1, h2, e3]
            rw [if_pos ⟨e1, e2⟩, if_pos hle]; rfl
          · cases hs
        · rename_i id idx o h1
          refine ⟨_, ?_, hs⟩
          simp only [opS, h1, h2, e3]
          rw [if_pos ⟨e1, e2⟩]; rfl
        · cases hs
      · exact dfltK_sound hs
    · cases hs
  case iaddr sz ks x i =>
    split at hs
    · rename_i c ks' sz' es k j h1 h2
      split at hs
      · rename_i hsz
        obtain ⟨hok, hs⟩ := br_some hs
        simp only [okAt] at hok
        split at hok
        · rename_i e he
          have := openAt_eq he _ 0 (K := fun cs => K (.ret (.ptr cs), h, false)) (by simpa using hok)
          rw [this] at hs
          refine ⟨_, ?_, hs⟩
          simp [opS, h1, h2, he, hsz, val]
        · cases hok
      · cases hs
    · exact dfltK_sound hs
  case load agg n ks x =>
    split at hs
    · rename_i id idx off hx
      split at hs
      · rename_i sz es fz hl
        split at hs
        · rename_i hcd
          obtain ⟨hk, hn, ha⟩ := hcd
          obtain ⟨hok, hs⟩ := br_some hs
          simp only [okP] at hok
          split at hok
          · rename_i e he
            rw [openP_eq he ks off hok] at hs
            have hlen := okCs_len hok
            have hle : ks.length ≤ ((cellsA e).drop off).length := by
              rw [List.length_take] at hlen; omega
            refine ⟨_, ?_, hs⟩
            have hoff : off ≤ (cellsA e).length := by rw [List.length_drop] at hle; omega
            simp only [opS, hx, cellsAt, hl, he, if_pos hoff, valO, part]
            cases agg with
            | true =>
              simp only [if_true]
              rw [if_pos (by omega), hk]
            | false =>
              have h1 : n = 1 := by simpa using ha
              subst h1
              simp only [Bool.false_eq_true, if_false, hk]
              cases hd : (cellsA e).drop off with
              | nil => rw [hd] at hle; simp only [List.length_nil] at hle; omega
              | cons y ys => simp
          · cases hok
        · cases hs
      · exact dfltK_sound hs
    · exact dfltK_sound hs
  case store n x v =>
    split at hs
    · rename_i id idx off hx
      split at hs
      · rename_i sz es hl
        obtain ⟨v', h', hst, hs⟩ := stillK_sound hs
        split at hs
        · rename_i sz2 es2 hl2
          split at hs
          · rename_i hcd
            obtain ⟨hok, hs⟩ := br_some hs
            simp only [okS] at hok
            split at hok
            · rename_i e he
              refine ⟨_, ?_, hs⟩
              have hsz : sz = sz2 := still_sz hl hst hl2
              simp only [opS, hx, storeA, hl, hst, hl2, he]
              rw [if_pos ⟨hcd.1, of_decide_eq_true hok, hcd.2⟩]
              simp only [setE, he, hsz]
            · cases hok
          · cases hs
        · cases hs
      · exact dfltK_sound hs
    · exact dfltK_sound hs
  case look ks z ok m k =>
    split at hs
    · rename_i id hx
      split at hs
      · rename_i kvs hl
        split at hs
        · rename_i ag cs hz
          cases hh : mhas ks kvs (ev k) with
          | true =>
            rw [hh] at hs
            simp only [br] at hs
            obtain ⟨e, he, hs, hel⟩ := open_of hs
            have he' : mval ks kvs (ev k) = e := by simpa [atIdx] using he
            simp only [mhas, Bool.and_eq_true] at hh
            obtain ⟨h1, h2⟩ := hh
            split at h2
            · rename_i v hv
              simp only [mval, hv] at he'
              subst he'
              refine ⟨_, ?_, hs⟩
              simp only [opS, hx, hl, h1, if_true, hv, elemG_self hel, val]
            · cases h2
          | false =>
            rw [hh] at hs
            obtain ⟨h1, hs⟩ := br_some hs
            simp only [mnot, Bool.and_eq_true] at h1
            obtain ⟨h1, h2⟩ := h1
            split at h2
            · rename_i hv
              refine ⟨_, ?_, hs⟩
              simp only [opS, hx, hl, h1, if_true, hv, val]
            · cases h2
        · exact dfltK_sound hs
      · exact dfltK_sound hs
    · exact dfltK_sound hs
  case pick c a b =>
    split at hs
    · rename_i t ht
      cases t
      · exact ⟨_, by simp [opS, ht, val], hs⟩
      · exact ⟨_, by simp [opS, ht, val], hs⟩
    · cases hs
  case call f args => exact callAK_sound hc hs
  case callv fv args =>
    split at hs
    · rename_i f cap hf
      obtain ⟨r, h1, h2⟩ := callAK_sound hc hs
      exact ⟨r, by simp only [opS, hf]; exact h1, h2⟩
    · cases hs
  case invk tbl x args =>
    split at hs
    · rename_i t v hf
      split at hs
      · rename_i f hq
        obtain ⟨r, h1, h2⟩ := callAK_sound hc hs
        exact ⟨r, by simp only [opS, hf, hq]; exact h1, h2⟩
      · cases hs
    · cases hs
  all_goals exact dfltK_sound hs
theorem wantK_sound {e : Env} {g : Option (Nat × Bool)} {K : Env → Bool → Option R} {ρ : R} (hs : wantK e g K = some ρ) : ∃ b, wants e g = some b ∧ K e b = some ρ := by
  cases g with
  | none => exact ⟨true, rfl, hs⟩
  | some tw =>
    obtain ⟨t, want⟩ := tw
    simp only [wantK] at hs
    split at hs
    · rename_i b hb
      have hset : tset e t (.bool b) = e := tset_same hb (by simp)
      cases b with
      | true =>
        simp only [br] at hs
        rw [hset] at hs
        exact ⟨want, by simp [wants, hb], hs⟩
      | false =>
        simp only [br] at hs
        rw [hset] at hs
        exact ⟨!want, by cases want <;> simp [wants, hb], hs⟩
    · rename_i hb
      exact ⟨false, by simp [wants, hb], hs⟩
    · cases hs
theorem stepK_sound (hc : CallS call cK) {nx : Nat} {o : IOper} {e : Env} {h : Heap} {K : Env → Step → Option R} {ρ : R} (hs : stepK P cK nx o e h K = some ρ) : ∃ s, stepO P call nx o e h = some s ∧ K e s = some ρ := by
  obtain ⟨b, hw, hs⟩ := wantK_sound hs
  cases b with
  | false => exact ⟨.skip, by simp [stepO, hw], hs⟩
  | true =>
    simp only at hs
    split at hs
    · cases hs
    · rename_i r hr
      obtain ⟨⟨x, out, w⟩, h1, h2⟩ := opK_sound hc hs
      cases x with
      | ret v => exact ⟨.did r w v out, by simp only [stepO, hw, hr, h1], h2⟩
      | pan v => exact ⟨.pan r v out, by simp only [stepO, hw, hr, h1], h2⟩
theorem killE_put {c d t : Nat} {v : AV} {e : Env} (h : (Nat.blt c t && Nat.blt t d) = true) : killE c d (putO e (some t) v) = killE c d e := by
  simp only [putO, killE, h]
theorem killE_kill {c d c' d' : Nat} (hc : c ≤ c') (hd : d' ≤ d) : ∀ e : Env, killE c d (killE c' d' e) = killE c d e
  | [] => rfl
  | (j, v) :: e => by
    by_cases h : (Nat.blt c' j && Nat.blt j d') = true
    · have h2 : (Nat.blt c j && Nat.blt j d) = true := by
        simp only [Bool.and_eq_true, Nat.blt_eq] at h ⊢
        omega
      simp only [killE, h, h2]
      exact killE_kill hc hd e
    · have h1 : (Nat.blt c' j && Nat.blt j d') = false := by cases hq : (Nat.blt c' j && Nat.blt j d') <;> first | rfl | exact absurd hq h
      simp only [killE, h1]
      by_cases h2 : (Nat.blt c j && Nat.blt j d) = true
      · simp only [h2]; exact killE_kill hc hd e
      · have h3 : (Nat.blt c j && Nat.blt j d) = false := by cases hq : (Nat.blt c j && Nat.blt j d) <;> first | rfl | exact absurd hq h2
        simp only [h3, killE_kill hc hd e]
theorem within_kill {c d : Nat} {o : IOper} (h : within c d o = true) (e : Env) (s : Step) (hs : ∀ r v out, s ≠ .pan r v out) : killE c d (trimE o (afterE e o.dst s)) = killE c d e := by
  obtain ⟨dst, op, g⟩ := o
  simp only [within, Bool.and_eq_true] at h
  obtain ⟨⟨h1, _⟩, h2⟩ := h
  cases dst with
  | none => cases h1
  | some j =>
    simp only at h1
    have hput : killE c d (afterE e (some j) s) = killE c d e := by
      cases s with
      | skip => exact killE_put h1
      | did r w v out => exact killE_put h1
      | pan r v out => exact absurd rfl (hs r v out)
    by_cases hp : ∃ k a b, op = .pick (.t k) a b
    · obtain ⟨k, a, b, rfl⟩ := hp
      simp only at h2
      simp only [trimE]
      rw [killE_kill (Nat.le_of_ble_eq_true h2) (by
        have := (Bool.and_eq_true _ _ ▸ h1).2
        simp only [Nat.blt_eq] at this
        omega), hput]
    · have : ∀ e2, trimE ⟨some j, op, g⟩ e2 = e2 := by
        intro e2
        simp only [trimE]
        split
        · exact absurd ⟨_, _, _, rfl⟩ hp
        · rfl
      rw [this]; exact hput
theorem news_nil {r : List Nat} : ∀ {out : Heap}, out.all (fun p => r.contains p.1) = true → news r out = []
  | [], _ => rfl
  | (i, b) :: h, hs => by
    simp only [List.all_cons, Bool.and_eq_true] at hs
    simp only [news, hs.1, if_true, news_nil hs.2]
theorem afterE_did {e : Env} {dst : Option Nat} {r : List Nat} {w : Bool} {v : AV} {out : Heap} : afterE e dst (.did r w v out) = putO e dst v := rfl
theorem pureK_sound (hc : CallS call cK) {c d : Nat} : ∀ {ops : List IOper} {e : Env} {h : Heap} {nx : Nat} {K : Env → Option R} {ρ : R}, pureK P cK ops e h nx K = some ρ → ∀ log, ∃ e' log', K e' = some ρ ∧
    (ops.all (within c d) = true → killE c d e' = killE c d e) ∧ ∀ more (out : Option (X × Env × Heap × List Step)), runOps P call more e' h (nx + 16 * ops.length) log' = out → runOps P call (ops ++ more) e h nx log = out
  | [], e, h, nx, K, ρ, hs, log => ⟨e, log, hs, fun _ => rfl, fun more out ho => by simpa using ho⟩
  | o :: ops, e, h, nx, K, ρ, hs, log => by
    simp only [pureK] at hs
    obtain ⟨s, h1, h2⟩ := stepK_sound hc hs
    cases s with
    | pan r v out => cases h2
    | skip =>
      obtain ⟨e', log', h3, h4, h5⟩ := pureK_sound (c := c) (d := d) hc h2 (log ++ [.skip])
      refine ⟨e', log', h3, fun ha => ?_, fun more out ho => ?_⟩
      · simp only [List.all_cons, Bool.and_eq_true] at ha
        rw [h4 ha.2, within_kill ha.1 _ _ (fun _ _ _ h => by cases h)]
      · simp only [List.cons_append, runOps, h1]
        refine h5 more out ?_
        rw [← ho]; congr 1; simp; omega
    | did r w v out0 =>
      simp only at h2
      split at h2
      · rename_i hall
        rw [frcA_eq, frcN_eq, frcE_eq] at h2
        obtain ⟨e', log', h3, h4, h5⟩ := pureK_sound (c := c) (d := d) hc h2 (log ++ [.did r false v out0])
        refine ⟨e', log', h3, fun ha => ?_, fun more out ho => ?_⟩
        · simp only [List.all_cons, Bool.and_eq_true] at ha
          rw [h4 ha.2, ← afterE_did (r := r) (w := false) (out := out0), within_kill ha.1 _ _ (fun _ _ _ h => by cases h)]
        · simp only [List.cons_append, runOps, h1]
          have hh : afterH h (.did r false v out0) = h := by simp [afterH, news_nil hall]
          rw [hh]
          refine h5 more out ?_
          rw [← ho]; congr 1; simp; omega
      · cases h2
theorem grpEnd_eq {t : Nat} : ∀ {os g r : List IOper} {p : IOper}, grpEnd t os = some (g, p, r) → os = g ++ p :: r ∧ ∃ a b, p.op = .pick (.t t) a b
  | [], g, r, p, h => by simp [grpEnd] at h
  | o :: os, g, r, p, h => by
    simp only [grpEnd] at h
    split at h
    · rename_i c a b ho
      split at h
      · rename_i hb
        cases h
        have : c = t := Nat.eq_of_beq_eq_true hb
        subst this
        exact ⟨rfl, a, b, ho⟩
      · split at h
        · rename_i q
          cases h
          obtain ⟨h1, h2⟩ := grpEnd_eq q
          exact ⟨by rw [h1]; rfl, h2⟩
        · cases h
    · split at h
      · rename_i q
        cases h
        obtain ⟨h1, h2⟩ := grpEnd_eq q
        exact ⟨by rw [h1]; rfl, h2⟩
      · cases h
theorem runK_sound {cK : (R : Type) → CallK R} (hc : ∀ R, CallS call (cK R)) : ∀ {n : Nat} {ops : List IOper} {e : Env} {h : Heap} {nx : Nat} {K : X → Env → Heap → Option R} {ρ : R}, runK P cK n ops e h nx K = some ρ → ∀ log, ∃ x e' h' log', runOps P call ops e h nx log = some (x, e', h', log') ∧ K x e' h' = some ρ
  | 0, ops, e, h, nx, K, ρ, hs, log => by simp [runK] at hs
  | n + 1, [], e, h, nx, K, ρ, hs, log => ⟨_, _, _, _, rfl, hs⟩
  | n + 1, o :: ops, e, h, nx, K, ρ, hs, log => by
    simp only [runK] at hs
    split at hs
    · rename_i t d g p rest hg
      obtain ⟨hb, hs⟩ := br_some hs
      rw [frcN_eq, frcE_eq] at hs
      simp only [grpOf] at hg
      split at hg
      · cases hg
      · split at hg
        · cases hg
        · rename_i g0 p0 r0 he
          split at hg
          · rename_i hpg hpd
            split at hg
            · rename_i hall
              cases hg
              obtain ⟨hops, a, b, hpo⟩ := grpEnd_eq he
              have hv := sm_of hb
              generalize gv (pureK P (cK Bool) (o :: g0) e h nx fun e1 => pureK P (cK Bool) [p] e1 h (nx + 16 * (o :: g0).length) (boolV d)) = bv at hv hs
              obtain ⟨e1, log1, h3, h4, h5⟩ := pureK_sound (c := t) (d := d) (hc Bool) hv log
              have hkill := h4 hall
              simp only [pureK] at h3
              obtain ⟨s, k1, k2⟩ := stepK_sound (hc Bool) h3
              have htrim : ∀ e2, trimE p e2 = killE t d e2 := fun e2 => by unfold trimE; rw [hpo, hpd]
              have hself : ∀ (v : AV) (e2 : Env), killE t d ((d, v) :: e2) = (d, v) :: killE t d e2 := fun v e2 => by
                have hb : (Nat.blt t d && Nat.blt d d) = false := by
                  have : Nat.blt d d = false := by
                    cases hq : Nat.blt d d with
                    | false => rfl
                    | true => exact absurd (Nat.blt_eq ▸ hq) (Nat.lt_irrefl d)
                  rw [this, Bool.and_false]
                simp only [killE, hb]
              cases s with
              | pan r v out => cases k2
              | skip =>
                exfalso
                rw [htrim, hpd, show afterE e1 (some d) Step.skip = (d, unit) :: e1 from rfl, hself] at k2
                simp [boolV, tget, unit] at k2
              | did r w v out =>
                simp only at k2
                split at k2
                · rename_i hall2
                  rw [frcA_eq, frcN_eq, frcE_eq, htrim, hpd, show putO e1 (some d) v = (d, v) :: e1 from rfl, hself] at k2
                  simp only [boolV, tget, if_true] at k2
                  split at k2
                  · rename_i b0
                    cases k2
                    have hh : afterH h (.did r false (.bool bv) out) = h := by simp [afterH, news_nil hall2]
                    obtain ⟨x, e', h', log', q1, q2⟩ := runK_sound hc hs (log1 ++ [.did r false (.bool bv) out])
                    refine ⟨x, e', h', log', ?_, q2⟩
                    have hsplit : o :: ops = (o :: g0) ++ p :: rest := by rw [hops]; rfl
                    rw [hsplit]
                    refine h5 (p :: rest) _ ?_
                    simp only [runOps, k1, hh]
                    rw [htrim, afterE_did, hpd, show putO e1 (some d) (AV.bool bv) = (d, .bool bv) :: e1 from rfl, hself, hkill]
                    rw [← q1]; congr 1
                  · cases k2
                · cases k2
            · cases hg
          · cases hg
    · obtain ⟨s, h1, h2⟩ := stepK_sound (hc R) hs
      simp only [runOps, h1]
      cases s with
      | pan r v out => exact ⟨_, _, _, _, rfl, h2⟩
      | skip => exact runK_sound hc h2 _
      | did r w v out =>
        simp only at h2
        rw [frcA_eq, frcH_eq, frcN_eq, frcE_eq] at h2
        exact runK_sound hc h2 _
theorem anyK_sound (hc : CallS call cK) {base : Nat} : ∀ {ops : List IOper} {i : Nat} {e : Env} {h : Heap} {log : List Step} {K : Env → Heap → List Step → Option R} {ρ : R}, anyK P cK base i ops e h log K = some ρ → ∃ e' h' log', runAny P call base i ops e h log = some (e', h', log') ∧ K e' h' log' = some ρ
  | [], i, e, h, log, K, ρ, hs => ⟨_, _, _, rfl, hs⟩
  | o :: ops, i, e, h, log, K, ρ, hs => by
    simp only [anyK] at hs
    obtain ⟨s, h1, h2⟩ := stepK_sound hc hs
    split at h2
    · rename_i ht
      split at h2
      · rename_i hl
        obtain ⟨e', h', log', h3, h4⟩ := anyK_sound hc h2
        exact ⟨e', h', log', by simp only [runAny, h1, ht, if_true, hl]; exact h3, h4⟩
      · rename_i q g hl
        obtain ⟨e', h', log', h3, h4⟩ := anyK_sound hc h2
        exact ⟨e', h', log', by simp only [runAny, h1, ht, if_true, hl]; exact h3, h4⟩
    · cases h2
theorem execK_sound {cK : (R : Type) → CallK R} (hc : ∀ R, CallS call (cK R)) : ∀ {c : ICode}, LoopS loop lK c → ∀ {s : St} {K : X → St → Option R} {ρ : R}, execK P cK lK c s K = some ρ → ∃ x s', exec P call loop c s = some (x, s') ∧ K x s' = some ρ := by
  intro c
  induction c with
  | skip => intro _ s K ρ h; exact ⟨_, _, rfl, h⟩
  | region ops d =>
    intro _ s K ρ h
    simp only [execK] at h
    cases d with
    | none =>
      obtain ⟨x, e', h', log', h1, h2⟩ := runK_sound hc h []
      exact ⟨x, _, by simp only [exec, runRegion, h1], h2⟩
    | some befs =>
      obtain ⟨e', h', log', h1, h2⟩ := anyK_sound (hc R) h
      split at h2
      · rename_i hcalm
        exact ⟨_, _, by simp only [exec, runRegion, h1, hcalm, if_true], h2⟩
      · cases h2
  | seq a b iha ihb =>
    intro hl s K ρ h
    simp only [execK] at h
    obtain ⟨x, s1, h1, h2⟩ := iha hl.1 h
    cases x with
    | normal =>
      obtain ⟨x2, s2, h3, h4⟩ := ihb hl.2 h2
      exact ⟨x2, s2, by simp only [exec, h1]; exact h3, h4⟩
    | _ => exact ⟨_, _, by simp only [exec, h1], h2⟩
  | cond c a b iha ihb =>
    intro hl s K ρ h
    simp only [execK] at h
    split at h
    · rename_i t ht
      cases t with
      | true =>
        obtain ⟨x, s1, h1, h2⟩ := iha hl.1 h
        exact ⟨x, s1, by simp only [exec, ht]; exact h1, h2⟩
      | false =>
        obtain ⟨x, s1, h1, h2⟩ := ihb hl.2 h
        exact ⟨x, s1, by simp only [exec, ht]; exact h1, h2⟩
    · cases h
  | block id a ih =>
    intro hl s K ρ h
    simp only [execK] at h
    obtain ⟨x, s1, h1, h2⟩ := ih hl h
    cases x with
    | exit j =>
      simp only at h2
      split at h2
      · rename_i hj; exact ⟨_, _, by simp only [exec, h1, hj, if_true], h2⟩
      · rename_i hj; exact ⟨_, _, by simp only [exec, h1, hj, if_false], h2⟩
    | _ => exact ⟨_, _, by simp only [exec, h1], h2⟩
  | loop k a ih => intro hl s K ρ h; exact hl _ _ _ h
  | exit id => intro _ s K ρ h; exact ⟨_, _, rfl, h⟩
  | ret => intro _ s K ρ h; exact ⟨_, _, rfl, h⟩
def leaveK (P : Prog) (f k : Nat) (v : AV) (h : Heap) (K : AV → Heap → Option R) : Option R :=
  let rest (v : AV) (h : Heap) : Option R := match reach purse h (idsA v ++ brought h k) (List.range k) with
    | none => none
    | some r => K (ren (place r) v) (renH (place r) (sub h r))
  if P.fresh f then rest v h else match idsA v with
    | [] => rest (nz v) h
    | ids => br (snapB h purse v) (match reach purse h ids [] with
      | some r => rest (snapV h purse v) (freeze h r)
      | none => none) none
theorem leaveK_sound {f k : Nat} {v : AV} {h : Heap} {K : AV → Heap → Option R} {ρ : R} (hs : leaveK P f k v h K = some ρ) : ∃ v' h', leave P f k v h = some (v', h') ∧ K v' h' = some ρ := by
  simp only [leaveK] at hs
  split at hs
  · rename_i hf
    split at hs
    · cases hs
    · rename_i r hr; exact ⟨_, _, by simp only [leave, hf, if_true, hr], hs⟩
  · rename_i hf
    split at hs
    · rename_i hi
      split at hs
      · cases hs
      · rename_i r hr; exact ⟨_, _, by simp only [leave, if_neg hf, still, hi, hr], hs⟩
    · rename_i ids hi
      obtain ⟨hb, hs⟩ := br_some hs
      split at hs
      · rename_i r0 hr0
        split at hs
        · cases hs
        · rename_i r hr
          refine ⟨_, _, ?_, hs⟩
          simp only [leave, if_neg hf, still, snap_of _ _ hb, hr0, hr]
      · cases hs
def bodyK (P : Prog) (cK : (R : Type) → CallK R) (lK : LoopK R) (f : Nat) (F : Fun) (args : List AV) (h : Heap) (K : Res → Heap → Option R) : Option R :=
  execK P cK lK F.body ⟨params 0 args, h, h.length, h.length⟩ fun x s =>
    let fin (_ : Unit) : Option R := match resAll s F.results with
      | some vs => leaveK P f h.length (one vs) s.hp fun v h => K (.ret v) h
      | none => none
    match x with
    | .normal => fin ()
    | .ret => fin ()
    | .pan v => leaveK P f h.length v s.hp fun v h => K (.pan v) h
    | .exit _ => none
theorem bodyK_sound {cK : (R : Type) → CallK R} (hc : ∀ R, CallS call (cK R)) {f : Nat} {F : Fun} (hl : LoopS loop lK F.body) {args : List AV} {h : Heap} {K : Res → Heap → Option R} {ρ : R} (hs : bodyK P cK lK f F args h K = some ρ) : ∃ r h', body P call loop f F args h = some (r, h') ∧ K r h' = some ρ := by
  obtain ⟨x, s, h1, h2⟩ := execK_sound hc hl hs
  simp only [body, h1]
  cases x with
  | exit j => cases h2
  | pan v =>
    simp only at h2 ⊢
    obtain ⟨v', h', hv, h2⟩ := leaveK_sound h2
    exact ⟨_, _, by simp only [hv], h2⟩
  | normal =>
    simp only at h2 ⊢
    split at h2
    · rename_i hv
      obtain ⟨v', h', hw, h2⟩ := leaveK_sound h2
      exact ⟨_, _, by simp only [hv, hw], h2⟩
    · cases h2
  | ret =>
    simp only at h2 ⊢
    split at h2
    · rename_i hv
      obtain ⟨v', h', hw, h2⟩ := leaveK_sound h2
      exact ⟨_, _, by simp only [hv, hw], h2⟩
    · cases h2
def tryS (K : Res → Heap → Option R) : List (Bool × Res × Heap) → Option R
  | [] => none
  | (b, r, h) :: l => br b (K r h) (tryS K l)
theorem tryS_sound {K : Res → Heap → Option R} {ρ : R} : ∀ {l : List (Bool × Res × Heap)}, tryS K l = some ρ → ∃ r h, (true, r, h) ∈ l ∧ K r h = some ρ
  | [], h => by cases h
  | (b, r, h) :: l, hs => by
    cases b with
    | true => exact ⟨r, h, by simp, hs⟩
    | false =>
      obtain ⟨r', h', h1, h2⟩ := tryS_sound (l := l) hs
      exact ⟨r', h', by simp [h1], h2⟩
def tryL (K : X → St → Option R) : List (Bool × X × St) → Option R
  | [] => none
  | (b, x, s) :: l => br b (K x s) (tryL K l)
theorem tryL_sound {K : X → St → Option R} {ρ : R} : ∀ {l : List (Bool × X × St)}, tryL K l = some ρ → ∃ x s, (true, x, s) ∈ l ∧ K x s = some ρ
  | [], h => by cases h
  | (b, x, s) :: l, hs => by
    cases b with
    | true => exact ⟨x, s, by simp, hs⟩
    | false =>
      obtain ⟨x', s', h1, h2⟩ := tryL_sound (l := l) hs
      exact ⟨x', s', by simp [h1], h2⟩
end
end Go.Eng
namespace Go.Eng
theorem loopO_norm {IP : Prog} {keep : List Nat} {c : ICode} {s s' : St} (h : norm (hk keep) s = norm (hk keep) s') {r : X × St} (hr : loopO IP keep c s' = some r) : loopO IP keep c s = some r := by
  obtain ⟨n, hn⟩ := loopO_iff.1 hr
  refine loopO_iff.2 ⟨n, ?_⟩
  cases n with
  | zero => simp [oracle] at hn
  | succ n => simp only [oracle] at hn ⊢; rw [h]; exact hn
@[simp] theorem br_true {R : Type} (x y : R) : br true x y = x := rfl
@[simp] theorem br_false {R : Type} (x y : R) : br false x y = y := rfl
theorem getD_some {α : Type} {l : List α} {i : Nat} {d : α} (h : i < l.length) : l[i]?.getD d = l[i] := by simp [h]
end Go.Eng
namespace Go.Eng
inductive Rd (τ : Type) where
  | next (v : τ)
  | done (j : Nat)
inductive Rx (τ : Type) where
  | next (v : τ)
  | out (x : X) (s : St)
def iterN {τ : Type} (st : τ → Option (Rd τ)) : Nat → τ → Option (Nat × τ)
  | 0, _ => none
  | n + 1, v => match st v with
    | some (.next v') => iterN st n v'
    | some (.done j) => some (j, v)
    | none => none
theorem iterN_succ {τ : Type} {st : τ → Option (Rd τ)} : ∀ {n : Nat} {v : τ} {r : Nat × τ}, iterN st n v = some r → iterN st (n + 1) v = some r
  | 0, v, r, h => by simp [iterN] at h
  | n + 1, v, r, h => by
    simp only [iterN] at h ⊢
    cases hs : st v with
    | none => rw [hs] at h; cases h
    | some q =>
      rw [hs] at h
      cases q with
      | next v' => exact iterN_succ h
      | done j => exact h
theorem iterN_mono {τ : Type} {st : τ → Option (Rd τ)} {n m : Nat} (hnm : n ≤ m) {v : τ} {r : Nat × τ} (h : iterN st n v = some r) : iterN st m v = some r := by
  induction hnm with
  | refl => exact h
  | step _ ih => exact iterN_succ ih
open Classical in
noncomputable def iterO {τ : Type} (st : τ → Option (Rd τ)) (v : τ) : Option (Nat × τ) :=
  if h : ∃ r n, iterN st n v = some r then some h.choose else none
theorem iterO_iff {τ : Type} {st : τ → Option (Rd τ)} {v : τ} {r : Nat × τ} : iterO st v = some r ↔ ∃ n, iterN st n v = some r := by
  unfold iterO
  split
  · rename_i h
    obtain ⟨n, hn⟩ := h.choose_spec
    constructor
    · intro hr; cases hr; exact ⟨n, hn⟩
    · rintro ⟨m, hm⟩
      have h1 := iterN_mono (Nat.le_max_left n m) hn
      have h2 := iterN_mono (Nat.le_max_right n m) hm
      rw [h1] at h2; exact h2
  · rename_i h
    constructor
    · intro hr; cases hr
    · rintro ⟨n, hn⟩; exact absurd ⟨r, n, hn⟩ h
theorem iterO_step {τ : Type} (st : τ → Option (Rd τ)) (v : τ) : iterO st v = match st v with
    | some (.next v') => iterO st v'
    | some (.done j) => some (j, v)
    | none => none := by
  cases hs : st v with
  | none =>
    simp only
    cases hi : iterO st v with
    | none => rfl
    | some r =>
      obtain ⟨n, hn⟩ := iterO_iff.1 hi
      cases n with
      | zero => simp [iterN] at hn
      | succ n => simp [iterN, hs] at hn
  | some q =>
    cases q with
    | done j => exact iterO_iff.2 ⟨1, by simp [iterN, hs]⟩
    | next v' =>
      simp only
      cases hi : iterO st v' with
      | some r =>
        obtain ⟨n, hn⟩ := iterO_iff.1 hi
        exact iterO_iff.2 ⟨n + 1, by simp [iterN, hs, hn]⟩
      | none =>
        cases hj : iterO st v with
        | none => rfl
        | some r =>
          obtain ⟨n, hn⟩ := iterO_iff.1 hj
          cases n with
          | zero => simp [iterN] at hn
          | succ n =>
            simp only [iterN, hs] at hn
            rw [iterO_iff.2 ⟨n, hn⟩] at hi; cases hi
theorem iterO_next {τ : Type} {st : τ → Option (Rd τ)} {v v' : τ} (h : st v = some (.next v')) : iterO st v = iterO st v' := by rw [iterO_step, h]
theorem iterO_done {τ : Type} {st : τ → Option (Rd τ)} {v : τ} {j : Nat} (h : st v = some (.done j)) : iterO st v = some (j, v) := by rw [iterO_step, h]
def endK {τ : Type} (keep : List Nat) (dec : St → Option τ) (x : X) (s : St) : Option (Rx τ) := match x with
  | .normal => match norm (hk keep) s with
    | some s => match dec s with
      | some v => some (.next v)
      | none => none
    | none => none
  | x => match outS keep x s with
    | some (x, s) => some (.out x s)
    | none => none
def cv {τ : Type} (ex : Nat → X × St) : Option (Rd τ) → Option (Rx τ)
  | some (.next v) => some (.next v)
  | some (.done j) => some (.out (ex j).1 (ex j).2)
  | none => none
section
variable {IP : Prog} {τ : Type} {cK : (R : Type) → CallK R} {lK : LoopK (Rx τ)} {keep : List Nat} {c : ICode}
end
def Told (IP : Prog) (keep : List Nat) (c : ICode) (g : St → List (Bool × X × St)) : Prop :=
  (∀ s x s', (true, x, s') ∈ g s → loopO IP keep c s = some (x, s')) ∧ ∀ s, g s ≠ [] → norm (hk keep) s = some s
theorem norm_norm_of {IP : Prog} {keep : List Nat} {c : ICode} {g : St → List (Bool × X × St)} (h : Told IP keep c g) {s s1 : St} (hn : norm (hk keep) s = some s1) {x : X} {s' : St} (hm : (true, x, s') ∈ g s1) : loopO IP keep c s = some (x, s') :=
  loopO_norm (by rw [hn, h.2 s1 (fun he => by rw [he] at hm; cases hm)]) (h.1 s1 x s' hm)
end Go.Eng
namespace Go.Eng
inductive Lf where
  | i (n : Int)
  | b (x : Bool)
  | s (s : List UInt8)
  | l (es : List AV)
  | n (k : Nat)
  | m (kvs : List (AV × AV))
inductive PA where
  | int (k : IntKind)
  | bool
  | str
  | nilp | nilm | nilf | nili | junk
  | nils (q : NilS)
  | agg (ps : List PA)
  | tup (ps : List PA)
  | view (sz : Nat)
  | ptr (ps : List PA)
  | own (id off : Nat)
  | ownn (id off : Nat)
  | ref (id idx off : Nat)
  | mref (id : Nat)
  | fn (f : FnId) (ps : List PA)
  | iface (t : Nat) (p : PA)
def app2 : Option (List Lf) → Option (List Lf) → Option (List Lf)
  | some a, some b => some (a ++ b)
  | _, _ => none
def mA : PA → AV → Option (List Lf)
  | .int k, .int k' n => if k' = k then some [.i n] else none
  | .bool, .bool x => some [.b x]
  | .str, .str x => some [.s x]
  | .nilp, .nilp => some []
  | .nilm, .nilm => some []
  | .nilf, .nilf => some []
  | .nili, .nili => some []
  | .junk, .junk => some []
  | .nils q, .nils q' => if q' = q then some [] else none
  | .agg ps, .agg cs => mAs ps cs
  | .tup ps, .tup cs => mAs ps cs
  | .view sz, .view sz' es => if sz' = sz then some [.l es] else none
  | .ptr ps, .ptr cs => mAs ps cs
  | .own id off, .own id' off' none => if id' = id ∧ off' = off then some [] else none
  | .ownn id off, .own id' off' (some k) => if id' = id ∧ off' = off then some [.n k] else none
  | .ref id idx off, .ref id' idx' off' => if id' = id ∧ idx' = idx ∧ off' = off then some [] else none
  | .mref id, .mref id' => if id' = id then some [] else none
  | .fn f ps, .fn f' cs => if f' = f then mAs ps cs else none
  | .iface t p, .iface t' v => if t' = t then mA p v else none
  | _, _ => none
where mAs : List PA → List AV → Option (List Lf)
  | [], [] => some []
  | p :: ps, v :: vs => app2 (mA p v) (mAs ps vs)
  | _, _ => none
def lfI : List Lf → Int
  | .i n :: _ => n
  | _ => 0
def lfB : List Lf → Bool
  | .b n :: _ => n
  | _ => false
def lfS : List Lf → List UInt8
  | .s n :: _ => n
  | _ => []
def lfL : List Lf → List AV
  | .l n :: _ => n
  | _ => []
def lfN : List Lf → Nat
  | .n n :: _ => n
  | _ => 0
def lfM : List Lf → List (AV × AV)
  | .m n :: _ => n
  | _ => []
def szA : PA → Nat
  | .int _ | .bool | .str | .view _ | .ownn _ _ => 1
  | .agg ps | .tup ps | .ptr ps | .fn _ ps => szAs ps
  | .iface _ p => szA p
  | _ => 0
where szAs : List PA → Nat
  | [] => 0
  | p :: ps => szA p + szAs ps
def fA : PA → List Lf → AV
  | .int k, ls => .int k (lfI ls)
  | .bool, ls => .bool (lfB ls)
  | .str, ls => .str (lfS ls)
  | .nilp, _ => .nilp
  | .nilm, _ => .nilm
  | .nilf, _ => .nilf
  | .nili, _ => .nili
  | .junk, _ => .junk
  | .nils sz, _ => .nils sz
  | .agg ps, ls => .agg (fAs ps ls)
  | .tup ps, ls => .tup (fAs ps ls)
  | .view sz, ls => .view sz (lfL ls)
  | .ptr ps, ls => .ptr (fAs ps ls)
  | .own id off, _ => .own id off none
  | .ownn id off, ls => .own id off (some (lfN ls))
  | .ref id idx off, _ => .ref id idx off
  | .mref id, _ => .mref id
  | .fn f ps, ls => .fn f (fAs ps ls)
  | .iface t p, ls => .iface t (fA p ls)
where fAs : List PA → List Lf → List AV
  | [], _ => []
  | p :: ps, ls => fA p ls :: fAs ps (ls.drop (szA p))
theorem app2_some {a b : Option (List Lf)} {r : List Lf} (h : app2 a b = some r) : ∃ x y, a = some x ∧ b = some y ∧ r = x ++ y := by
  cases a <;> cases b <;> simp [app2] at h
  exact ⟨_, _, rfl, rfl, h.symm⟩
mutual
theorem mA_ok : ∀ (p : PA) {v : AV} {ls : List Lf}, mA p v = some ls → ls.length = szA p ∧ ∀ r, fA p (ls ++ r) = v
  | .int k, v, ls, h => by
    cases v <;> simp only [mA, reduceCtorEq] at h
    split at h
    · rename_i hk; subst hk; simp at h; subst h; exact ⟨rfl, fun r => rfl⟩
    · cases h
  | .bool, v, ls, h => by cases v <;> simp [mA] at h; subst h; exact ⟨rfl, fun r => rfl⟩
  | .str, v, ls, h => by cases v <;> simp [mA] at h; subst h; exact ⟨rfl, fun r => rfl⟩
  | .nilp, v, ls, h => by cases v <;> simp [mA] at h; subst h; exact ⟨rfl, fun r => rfl⟩
  | .nilm, v, ls, h => by cases v <;> simp [mA] at h; subst h; exact ⟨rfl, fun r => rfl⟩
  | .nilf, v, ls, h => by cases v <;> simp [mA] at h; subst h; exact ⟨rfl, fun r => rfl⟩
  | .nili, v, ls, h => by cases v <;> simp [mA] at h; subst h; exact ⟨rfl, fun r => rfl⟩
  | .junk, v, ls, h => by cases v <;> simp [mA] at h; subst h; exact ⟨rfl, fun r => rfl⟩
  | .nils sz, v, ls, h => by
    cases v <;> simp only [mA, reduceCtorEq] at h
    split at h
    · rename_i hk; subst hk; simp at h; subst h; exact ⟨rfl, fun r => rfl⟩
    · cases h
  | .agg ps, v, ls, h => by
    cases v <;> simp only [mA, reduceCtorEq] at h
    obtain ⟨h1, h2⟩ := mAs_ok ps h
    exact ⟨h1, fun r => by simp only [fA, h2]⟩
  | .tup ps, v, ls, h => by
    cases v <;> simp only [mA, reduceCtorEq] at h
    obtain ⟨h1, h2⟩ := mAs_ok ps h
    exact ⟨h1, fun r => by simp only [fA, h2]⟩
  | .view sz, v, ls, h => by
    cases v <;> simp only [mA, reduceCtorEq] at h
    split at h
    · rename_i hk; subst hk; simp at h; subst h; exact ⟨rfl, fun r => rfl⟩
    · cases h
  | .ptr ps, v, ls, h => by
    cases v <;> simp only [mA, reduceCtorEq] at h
    obtain ⟨h1, h2⟩ := mAs_ok ps h
    exact ⟨h1, fun r => by simp only [fA, h2]⟩
  | .own id off, v, ls, h => by
    cases v <;> first | (exfalso; revert h; simp [mA]; done) | skip
    rename_i a b lo
    cases lo <;> first | (exfalso; revert h; simp [mA]; done) | skip
    simp only [mA] at h
    split at h
    · rename_i hk; obtain ⟨rfl, rfl⟩ := hk; simp at h; subst h; exact ⟨rfl, fun r => rfl⟩
    · cases h
  | .ownn id off, v, ls, h => by
    cases v <;> first | (exfalso; revert h; simp [mA]; done) | skip
    rename_i a b lo
    cases lo <;> first | (exfalso; revert h; simp [mA]; done) | skip
    simp only [mA] at h
    split at h
    · rename_i hk; obtain ⟨rfl, rfl⟩ := hk; simp at h; subst h; exact ⟨rfl, fun r => rfl⟩
    · cases h
  | .ref id idx off, v, ls, h => by
    cases v <;> simp only [mA, reduceCtorEq] at h
    split at h
    · rename_i hk; obtain ⟨rfl, rfl, rfl⟩ := hk; simp at h; subst h; exact ⟨rfl, fun r => rfl⟩
    · cases h
  | .mref id, v, ls, h => by
    cases v <;> simp only [mA, reduceCtorEq] at h
    split at h
    · rename_i hk; subst hk; simp at h; subst h; exact ⟨rfl, fun r => rfl⟩
    · cases h
  | .fn f ps, v, ls, h => by
    cases v <;> simp only [mA, reduceCtorEq] at h
    split at h
    · rename_i hk; subst hk
      obtain ⟨h1, h2⟩ := mAs_ok ps h
      exact ⟨h1, fun r => by simp only [fA, h2]⟩
    · cases h
  | .iface t p, v, ls, h => by
    cases v <;> simp only [mA, reduceCtorEq] at h
    split at h
    · rename_i hk; subst hk
      obtain ⟨h1, h2⟩ := mA_ok p h
      exact ⟨h1, fun r => by simp only [fA, h2]⟩
    · cases h
theorem mAs_ok : ∀ (ps : List PA) {vs : List AV} {ls : List Lf}, mA.mAs ps vs = some ls → ls.length = szA.szAs ps ∧ ∀ r, fA.fAs ps (ls ++ r) = vs
  | [], vs, ls, h => by cases vs <;> simp [mA.mAs] at h; subst h; exact ⟨rfl, fun r => rfl⟩
  | p :: ps, vs, ls, h => by
    cases vs <;> simp only [mA.mAs, reduceCtorEq] at h
    obtain ⟨x, y, h1, h2, rfl⟩ := app2_some h
    obtain ⟨g1, g2⟩ := mA_ok p h1
    obtain ⟨g3, g4⟩ := mAs_ok ps h2
    refine ⟨by simp [szA.szAs, g1, g3], fun r => ?_⟩
    simp only [fA.fAs]
    rw [List.append_assoc, g2]
    congr 1
    rw [← g1, List.drop_left]
    exact g4 r
end
inductive PB where
  | box (ps : List PA) (fz : Bool)
  | arr (sz : Nat) (fz : Bool)
  | mp
def mB : PB → Blk → Option (List Lf)
  | .box ps fz, .box cs fz' => if fz' = fz then mA.mAs ps cs else none
  | .arr sz fz, .arr sz' es fz' => if sz' = sz ∧ fz' = fz then some [.l es] else none
  | .mp, .mp kvs => some [.m kvs]
  | _, _ => none
def szB : PB → Nat
  | .box ps _ => szA.szAs ps
  | _ => 1
def fB : PB → List Lf → Blk
  | .box ps fz, ls => .box (fA.fAs ps ls) fz
  | .arr sz fz, ls => .arr sz (lfL ls) fz
  | .mp, ls => .mp (lfM ls)
theorem mB_ok {p : PB} {v : Blk} {ls : List Lf} (h : mB p v = some ls) : ls.length = szB p ∧ ∀ r, fB p (ls ++ r) = v := by
  cases p <;> cases v <;> simp only [mB, reduceCtorEq] at h
  · split at h
    · rename_i hk; subst hk
      obtain ⟨h1, h2⟩ := mAs_ok _ h
      exact ⟨h1, fun r => by simp only [fB, h2]⟩
    · cases h
  · split at h
    · rename_i hk; obtain ⟨rfl, rfl⟩ := hk; simp at h; subst h; exact ⟨rfl, fun r => rfl⟩
    · cases h
  · simp at h; subst h; exact ⟨rfl, fun r => rfl⟩
def mH : List (Nat × PB) → Heap → Option (List Lf)
  | [], [] => some []
  | (i, p) :: ps, (j, b) :: h => if j = i then app2 (mB p b) (mH ps h) else none
  | _, _ => none
def szH : List (Nat × PB) → Nat
  | [] => 0
  | (_, p) :: ps => szB p + szH ps
def fH : List (Nat × PB) → List Lf → Heap
  | [], _ => []
  | (i, p) :: ps, ls => (i, fB p ls) :: fH ps (ls.drop (szB p))
theorem mH_ok : ∀ {ps : List (Nat × PB)} {h : Heap} {ls : List Lf}, mH ps h = some ls → ls.length = szH ps ∧ ∀ r, fH ps (ls ++ r) = h
  | [], h, ls, hh => by cases h <;> simp [mH] at hh; subst hh; exact ⟨rfl, fun r => rfl⟩
  | (i, p) :: ps, h, ls, hh => by
    cases h with
    | nil => simp [mH] at hh
    | cons jb h =>
      obtain ⟨j, b⟩ := jb
      simp only [mH] at hh
      split at hh
      · rename_i hk; subst hk
        obtain ⟨x, y, h1, h2, rfl⟩ := app2_some hh
        obtain ⟨g1, g2⟩ := mB_ok h1
        obtain ⟨g3, g4⟩ := mH_ok h2
        refine ⟨by simp [szH, g1, g3], fun r => ?_⟩
        simp only [fH]
        rw [List.append_assoc, g2, ← g1, List.drop_left, g4]
      · cases hh
def mE : List (Nat × PA) → Env → Option (List Lf)
  | [], [] => some []
  | (i, p) :: ps, (j, b) :: h => if j = i then app2 (mA p b) (mE ps h) else none
  | _, _ => none
def szE : List (Nat × PA) → Nat
  | [] => 0
  | (_, p) :: ps => szA p + szE ps
def fE : List (Nat × PA) → List Lf → Env
  | [], _ => []
  | (i, p) :: ps, ls => (i, fA p ls) :: fE ps (ls.drop (szA p))
theorem mE_ok : ∀ {ps : List (Nat × PA)} {h : Env} {ls : List Lf}, mE ps h = some ls → ls.length = szE ps ∧ ∀ r, fE ps (ls ++ r) = h
  | [], h, ls, hh => by cases h <;> simp [mE] at hh; subst hh; exact ⟨rfl, fun r => rfl⟩
  | (i, p) :: ps, h, ls, hh => by
    cases h with
    | nil => simp [mE] at hh
    | cons jb h =>
      obtain ⟨j, b⟩ := jb
      simp only [mE] at hh
      split at hh
      · rename_i hk; subst hk
        obtain ⟨x, y, h1, h2, rfl⟩ := app2_some hh
        obtain ⟨g1, g2⟩ := mA_ok p h1
        obtain ⟨g3, g4⟩ := mE_ok h2
        refine ⟨by simp [szE, g1, g3], fun r => ?_⟩
        simp only [fE]
        rw [List.append_assoc, g2, ← g1, List.drop_left, g4]
      · cases hh
structure PSt where
  tm : List (Nat × PA)
  hp : List (Nat × PB)
  nx : Nat
  k : Nat
def mSt (p : PSt) (s : St) : Option (List Lf) := if s.nx = p.nx ∧ s.k = p.k then app2 (mE p.tm s.tm) (mH p.hp s.hp) else none
def fSt (p : PSt) (ls : List Lf) : St := ⟨fE p.tm ls, fH p.hp (ls.drop (szE p.tm)), p.nx, p.k⟩
theorem mSt_ok {p : PSt} {s : St} {ls : List Lf} (h : mSt p s = some ls) : fSt p ls = s := by
  simp only [mSt] at h
  split at h
  · rename_i hk
    obtain ⟨x, y, h1, h2, rfl⟩ := app2_some h
    obtain ⟨g1, g2⟩ := mE_ok h1
    obtain ⟨g3, g4⟩ := mH_ok h2
    have := g4 []
    rw [List.append_nil] at this
    obtain ⟨tm, hp, nx, k⟩ := s
    simp only at hk
    simp only [fSt, g2, ← g1, List.drop_left, this, hk.1, hk.2]
  · cases h
structure PArgs where
  as : List PA
  hp : List (Nat × PB)
def mArgs (p : PArgs) (a : List AV) (h : Heap) : Option (List Lf) := app2 (mA.mAs p.as a) (mH p.hp h)
def fArgs (p : PArgs) (ls : List Lf) : List AV × Heap := (fA.fAs p.as ls, fH p.hp (ls.drop (szA.szAs p.as)))
theorem mArgs_ok {p : PArgs} {a : List AV} {h : Heap} {ls : List Lf} (hh : mArgs p a h = some ls) : (a, h) = fArgs p ls := by
  obtain ⟨x, y, h1, h2, rfl⟩ := app2_some hh
  obtain ⟨g1, g2⟩ := mAs_ok _ h1
  obtain ⟨g3, g4⟩ := mH_ok h2
  have := g4 []
  rw [List.append_nil] at this
  simp only [fArgs, g2, ← g1, List.drop_left, this]
structure PRes where
  pan : Bool
  v : PA
  hp : List (Nat × PB)
def mRes (p : PRes) (r : Res) (h : Heap) : Option (List Lf) := match p.pan, r with
  | false, .ret v => app2 (mA p.v v) (mH p.hp h)
  | true, .pan v => app2 (mA p.v v) (mH p.hp h)
  | _, _ => none
def fRes (p : PRes) (ls : List Lf) : Res × Heap := ((match p.pan with | false => .ret (fA p.v ls) | true => .pan (fA p.v ls)), fH p.hp (ls.drop (szA p.v)))
theorem mRes_ok {p : PRes} {r : Res} {h : Heap} {ls : List Lf} (hh : mRes p r h = some ls) : (r, h) = fRes p ls := by
  obtain ⟨pan, pv, php⟩ := p
  cases pan <;> cases r <;> simp only [mRes, reduceCtorEq] at hh
  all_goals
    obtain ⟨x, y, h1, h2, rfl⟩ := app2_some hh
    obtain ⟨g1, g2⟩ := mA_ok _ h1
    obtain ⟨g3, g4⟩ := mH_ok h2
    have := g4 []
    rw [List.append_nil] at this
    simp only [fRes, g2, ← g1, List.drop_left, this]
end Go.Eng
namespace Go.Eng
instance instSumInh {α β : Type} [Inhabited α] : Inhabited (α ⊕ β) := ⟨.inl default⟩
inductive DT (α : Type) where
  | no
  | at (a : α)
  | br (b : Bool) (x y : DT α)
def DT.ev {α : Type} : DT α → Option α
  | .no => none
  | .at a => some a
  | .br b x y => Go.Eng.br b x.ev y.ev
@[simp] theorem ev_no {α : Type} : (DT.no : DT α).ev = none := rfl
@[simp] theorem ev_at {α : Type} (a : α) : (DT.at a).ev = some a := rfl
@[simp] theorem ev_br {α : Type} (b : Bool) (x y : DT α) : (DT.br b x y).ev = bif b then x.ev else y.ev := by cases b <;> rfl
noncomputable def DT.bi {α β : Type} [Inhabited β] (o : Option β) (k : β → DT α) (e : DT α) : DT α := .br (sm o) (k (gv o)) e
@[simp] theorem ev_bi_some {α β : Type} [Inhabited β] (y : β) (k : β → DT α) (e : DT α) : (DT.bi (some y) k e).ev = (k y).ev := rfl
@[simp] theorem ev_bi_none {α β : Type} [Inhabited β] (k : β → DT α) (e : DT α) : (DT.bi (none : Option β) k e).ev = e.ev := rfl
@[simp] theorem br_eq {R : Type} (b : Bool) (x y : R) : Go.Eng.br b x y = bif b then x else y := by cases b <;> rfl
@[simp] theorem cond_some {α : Type} (b : Bool) (x y : α) : (bif b then some x else some y) = some (bif b then x else y) := by cases b <;> rfl
noncomputable def lock {α : Type} (x : α) : α := Classical.choose (⟨x, rfl⟩ : ∃ y, y = x)
theorem lock_eq {α : Type} (x : α) : lock x = x := Classical.choose_spec (⟨x, rfl⟩ : ∃ y, y = x)
def pl {α β : Type} (o : Option (α ⊕ β)) : Option α := match o with
  | some (.inl x) => some x
  | _ => none
def pr {α β : Type} (o : Option (α ⊕ β)) : Option β := match o with
  | some (.inr x) => some x
  | _ => none
def sl {α β : Type} [Inhabited α] (o : α ⊕ β) : α := match o with
  | .inl x => x
  | _ => default
def sr {α β : Type} [Inhabited β] (o : α ⊕ β) : β := match o with
  | .inr x => x
  | _ => default
def pj {τ : Type} (j : Nat) (o : Option (Nat × τ)) : Option τ := match o with
  | some (k, w) => if k = j then some w else none
  | none => none
@[simp] theorem pl_inl {α β : Type} (x : α) : pl (some (Sum.inl x) : Option (α ⊕ β)) = some x := rfl
@[simp] theorem pl_inr {α β : Type} (x : β) : pl (some (Sum.inr x) : Option (α ⊕ β)) = none := rfl
@[simp] theorem pl_none {α β : Type} : pl (none : Option (α ⊕ β)) = none := rfl
@[simp] theorem pr_inl {α β : Type} (x : α) : pr (some (Sum.inl x) : Option (α ⊕ β)) = none := rfl
@[simp] theorem pr_inr {α β : Type} (x : β) : pr (some (Sum.inr x) : Option (α ⊕ β)) = some x := rfl
@[simp] theorem pr_none {α β : Type} : pr (none : Option (α ⊕ β)) = none := rfl
@[simp] theorem sl_inl {α β : Type} [Inhabited α] (x : α) : sl (Sum.inl x : α ⊕ β) = x := rfl
@[simp] theorem sr_inr {α β : Type} [Inhabited β] (x : β) : sr (Sum.inr x : α ⊕ β) = x := rfl
@[simp] theorem pj_some {τ : Type} (j k : Nat) (w : τ) : pj j (some (k, w)) = if k = j then some w else none := rfl
@[simp] theorem pj_none {τ : Type} (j : Nat) : pj j (none : Option (Nat × τ)) = none := rfl
theorem pl_some {α β : Type} {o : Option (α ⊕ β)} {x : α} (h : pl o = some x) : o = some (.inl x) := by
  unfold pl at h; split at h
  · cases h; rfl
  · cases h
theorem pr_some {α β : Type} {o : Option (α ⊕ β)} {x : β} (h : pr o = some x) : o = some (.inr x) := by
  unfold pr at h; split at h
  · cases h; rfl
  · cases h
theorem pj_eq {τ : Type} {j : Nat} {o : Option (Nat × τ)} {w : τ} (h : pj j o = some w) : o = some (j, w) := by
  unfold pj at h
  split at h
  · split at h
    · rename_i hk; cases h; rw [hk]
    · cases h
  · cases h
abbrev Ent := List AV → Heap → List (Bool × Res × Heap)
abbrev Tab := List (Nat × Ent)
def sumT : Tab → Nat → List AV → Heap → List (Bool × Res × Heap)
  | [], _, _, _ => []
  | (i, g) :: t, f, a, h => if f = i then g a h ++ sumT t f a h else sumT t f a h
def Snd (IP : Prog) (f : Nat) (g : Ent) : Prop := ∀ a h r h', (true, r, h') ∈ g a h → callO IP f a h = some (r, h')
def TabOk (IP : Prog) : Tab → Prop
  | [] => True
  | (i, g) :: t => Snd IP i g ∧ TabOk IP t
def callT (T : Tab) (R : Type) : CallK R := fun f a h K => tryS K (sumT T f a h)
theorem sumT_ok {IP : Prog} : ∀ {T : Tab}, TabOk IP T → ∀ {f : Nat} {a : List AV} {h : Heap} {r : Res} {h' : Heap}, (true, r, h') ∈ sumT T f a h → callO IP f a h = some (r, h')
  | [], _, f, a, h, r, h', hm => by simp [sumT] at hm
  | (i, g) :: t, hT, f, a, h, r, h', hm => by
    simp only [sumT] at hm
    split at hm
    · rename_i hf
      subst hf
      rcases List.mem_append.1 hm with hm | hm
      · exact hT.1 _ _ _ _ hm
      · exact sumT_ok hT.2 hm
    · exact sumT_ok hT.2 hm
theorem callT_ok {IP : Prog} {T : Tab} (h : TabOk IP T) {R : Type} : CallS (callO IP) (callT T R) := by
  intro f a hp K ρ hs
  obtain ⟨r, h', h1, h2⟩ := tryS_sound hs
  exact ⟨r, h', sumT_ok h h1, h2⟩
abbrev LEnt := St → List (Bool × X × St)
abbrev LTab := List (Nat × LEnt)
def sumL : LTab → Nat → St → List (Bool × X × St)
  | [], _, _ => []
  | (i, g) :: t, id, s => if id = i then g s ++ sumL t id s else sumL t id s
def loopT {R : Type} (T : LTab) : LoopK R := fun k _ s K => match k with
  | [] => none
  | id :: _ => match norm (hk k) s with
    | none => none
    | some s1 => tryL K (sumL T id s1)
def selL : LTab → List Nat → List LEnt
  | [], _ => []
  | (i, g) :: t, k => match k with
    | [] => []
    | id :: _ => if id = i then g :: selL t k else selL t k
def LOk (IP : Prog) (T : LTab) : List (List Nat × ICode) → Prop
  | [] => True
  | p :: r => (∀ g ∈ selL T p.1, Told IP p.1 p.2 g) ∧ LOk IP T r
theorem sumL_sel {id : Nat} {rest : List Nat} {s : St} {e : Bool × X × St} : ∀ {T : LTab}, e ∈ sumL T id s → ∃ g ∈ selL T (id :: rest), e ∈ g s
  | [], h => by simp [sumL] at h
  | (i, g) :: t, h => by
    simp only [sumL] at h
    split at h
    · rename_i hi
      rcases List.mem_append.1 h with h | h
      · exact ⟨g, by simp [selL, hi], h⟩
      · obtain ⟨g', h1, h2⟩ := sumL_sel h
        exact ⟨g', by simp [selL, hi]; exact Or.inr (by rw [← hi]; exact h1), h2⟩
    · rename_i hi
      obtain ⟨g', h1, h2⟩ := sumL_sel h
      exact ⟨g', by simp [selL, hi]; exact h1, h2⟩
theorem LOk_app {IP : Prog} {T : LTab} : ∀ {a b : List (List Nat × ICode)}, LOk IP T (a ++ b) → LOk IP T a ∧ LOk IP T b
  | [], _, h => ⟨trivial, h⟩
  | _ :: _, _, h => ⟨⟨h.1, (LOk_app h.2).1⟩, (LOk_app h.2).2⟩
theorem loopT_ok {IP : Prog} {T : LTab} {R : Type} : ∀ {c : ICode}, LOk IP T (loops c) → LoopS (R := R) (loopO IP) (loopT T) c := by
  intro c
  induction c with
  | seq a b iha ihb => intro h; exact ⟨iha (LOk_app h).1, ihb (LOk_app h).2⟩
  | cond x a b iha ihb => intro h; exact ⟨iha (LOk_app h).1, ihb (LOk_app h).2⟩
  | block id a ih => intro h; exact ih h
  | loop k a ih =>
    intro h s K ρ hs
    have hk := h.1
    cases k with
    | nil => simp [loopT] at hs
    | cons id rest =>
      simp only [loopT] at hs
      split at hs
      · cases hs
      · rename_i s1 hn
        obtain ⟨x, s', h1, h2⟩ := tryL_sound hs
        obtain ⟨g, h3, h4⟩ := sumL_sel (rest := rest) h1
        exact ⟨x, s', norm_norm_of (hk g h3) hn h4, h2⟩
  | _ => intro _; exact trivial
theorem LOk_of {IP : Prog} {T : LTab} {c : ICode} {l : List (List Nat × ICode)} (h : loops c = l) (hl : LOk IP T l) : LOk IP T (loops c) := h ▸ hl
theorem sel_one {IP : Prog} {T : LTab} {p : List Nat × ICode} {g : LEnt} (h : selL T p.1 = [g]) (t : Told IP p.1 p.2 g) : ∀ g ∈ selL T p.1, Told IP p.1 p.2 g := by
  rw [h]; intro g' hg'; rw [List.mem_singleton] at hg'; subst hg'; exact t
theorem sel_no {IP : Prog} {T : LTab} {p : List Nat × ICode} (h : selL T p.1 = []) : ∀ g ∈ selL T p.1, Told IP p.1 p.2 g := by
  rw [h]; intro g' hg'; cases hg'
section
variable {R : Type} {ls : List Lf} {v : R}
end
def E2 {α β : Type} [Inhabited α] (e : α → Res × Heap) (E : Option β → List (Bool × Res × Heap)) (o : Option (α ⊕ β)) : List (Bool × Res × Heap) := (sm (pl o), (e (gv (pl o))).1, (e (gv (pl o))).2) :: E (pr o)
theorem fun_of {IP : Prog} {T : Tab} {L : LTab} {f : Nat} {F : Fun} {args : List AV} {h : Heap} {β : Type} {dec : Res → Heap → Option β} {er : β → Res × Heap} {t : DT β} {y : β} (hT : TabOk IP T) (hF : IP.fn f = some F) (hL : LOk IP L (loops F.body))
    (hdec : ∀ r h y, dec r h = some y → (r, h) = er y) (hb : bodyK (R := β) IP (callT T) (loopT L) f F args h dec = t.ev) (ht : t.ev = some y) : callO IP f args h = some (er y) := by
  rw [ht] at hb
  obtain ⟨r, h', h1, h2⟩ := bodyK_sound (fun R => callT_ok hT) (loopT_ok hL) hb
  rw [← hdec _ _ _ h2]
  exact callO_of hF h1
def cvR {τ : Type} (ex : Nat → X × St) : Rd τ → Rx τ
  | .next v => .next v
  | .done j => .out (ex j).1 (ex j).2
def cvD {τ : Type} (ex : Nat → X × St) : DT (Rd τ) → DT (Rx τ)
  | .no => .no
  | .at r => .at (cvR ex r)
  | .br b x y => .br b (cvD ex x) (cvD ex y)
theorem cvD_ev {τ : Type} {ex : Nat → X × St} : ∀ {t : DT (Rd τ)}, (cvD ex t).ev = cv ex t.ev
  | .no => rfl
  | .at r => by cases r <;> rfl
  | .br b x y => by
    cases b
    · exact cvD_ev (t := y)
    · exact cvD_ev (t := x)
def outB : X → Bool
  | .normal => false
  | _ => true
open Classical in
noncomputable def limO {β : Type} (s : Nat → Option β) : Option β := if h : ∃ r n, ∀ m, n ≤ m → s m = some r then some h.choose else none
theorem limO_some {β : Type} {s : Nat → Option β} {r : β} (h : limO s = some r) : ∃ n, s n = some r := by
  unfold limO at h
  split at h
  · rename_i hx
    obtain ⟨n, hn⟩ := hx.choose_spec
    cases h
    exact ⟨n, hn n (Nat.le_refl n)⟩
  · cases h
theorem limO_of {β : Type} {s : Nat → Option β} {r : β} {n : Nat} (h : ∀ m, n ≤ m → s m = some r) : limO s = some r := by
  unfold limO
  have hx : ∃ r n, ∀ m, n ≤ m → s m = some r := ⟨r, n, h⟩
  rw [dif_pos hx]
  obtain ⟨k, hk⟩ := hx.choose_spec
  have h1 := hk (max n k) (Nat.le_max_right _ _)
  rw [h _ (Nat.le_max_left _ _)] at h1
  exact h1.symm
end Go.Eng
namespace Go.Eng
set_option linter.unusedSectionVars false
variable [Globs]
def noC : CallT := fun _ _ _ => none
def noL : LoopT := fun _ _ _ => none
def cloneG (sz bytes : Nat) : List AV → Heap → Option (Res × Heap)
  | [.view sz' es], [] => if sz' = sz then
      if es.length = 0 then some (.ret (.nils ⟨sz, .any⟩), [])
      else if es.length * bytes ≤ lim then some (.ret (.own 0 0 none), [(0, .arr sz es false)]) else none
    else none
  | _, _ => none
theorem calls_weak {P : Program} {w : World} {I : Imm} {m : Names} {h : Heap} {f : Nat} {vs : Array Value} {v v' : AV} {h' : Heap} (hc : Calls P f vs w (Post w I m h (.ret v) h')) (hw : ∀ {w I m u}, Rel w I v m u → Rel w I v' m u) :
    Calls P f vs w (Post w I m h (.ret v') h') := by
  refine hc.mono ?_
  rintro e w' ⟨I', m', ha, u, he, hu⟩
  exact ⟨I', m', ha, u, he, hw hu⟩
theorem clone_spec {P : Program} {IP : Prog} {f : Nat} {F : Fun} {sz bytes : Nat} (hF : FunOk P f F)
    (h1 : body IP noC noL f F [.nils ⟨sz, .nil⟩] [] = some (.ret (.nils ⟨sz, .nil⟩), []))
    (h2 : body IP noC noL f F [.nils ⟨sz, .non⟩] [] = some (.ret (.nils ⟨sz, .any⟩), []))
    (h3 : ∀ es : List AV, es.length ≠ 0 → es.length * bytes ≤ lim → body IP noC noL f F [.view sz es] [] = some (.ret (.own 0 0 none), [(0, .arr sz es false)])) : SpecOk P f (cloneG sz bytes) := by
  have hC : CallOk P noC := fun _ _ _ _ _ h => by cases h
  have hL : LoopOk P noL := fun _ _ _ _ _ h => by cases h
  intro args h r h' hg
  unfold cloneG at hg
  split at hg
  · rename_i sz' es
    split at hg
    · rename_i hsz
      subst hsz
      split at hg
      · rename_i h0
        cases hg
        refine ⟨(body_sound hC hL hF h1).1, fun w I m vs H hm hr => ?_⟩
        obtain ⟨v, vs', rfl, hv, hvs⟩ := by simpa only [RelL] using hr
        obtain ⟨a, cap, rfl, hcap, _, hz⟩ := by simpa only [Rel] using hv
        subst hvs
        cases a with
        | none =>
          have hc0 := hz rfl
          subst hc0
          refine calls_weak ((body_sound hC hL hF h1).2 w I m _ H hm ?_) ?_
          · simp only [RelL, Rel]
            exact ⟨_, _, rfl, ⟨none, 0, by rw [h0], by simp, by simp, by simp⟩, rfl⟩
          · intro w I m u hu
            simp only [Rel] at hu ⊢
            obtain ⟨b, cap, rfl, g1, _, _⟩ := hu
            exact ⟨b, cap, rfl, fun _ => g1 (by simp), by simp, by simp⟩
        | some ad =>
          refine (body_sound hC hL hF h2).2 w I m _ H hm ?_
          simp only [RelL, Rel]
          exact ⟨_, _, rfl, ⟨some ad, cap, by rw [h0], by simp, by simp, fun _ => ⟨_, rfl⟩⟩, rfl⟩
      · rename_i h0
        split at hg
        · rename_i hb
          cases hg
          exact body_sound hC hL hF (h3 es h0 hb)
        · cases hg
    · cases hg
  · cases hg
theorem loopS_no {R : Type} {loop : LoopT} : ∀ c : ICode, LoopS (R := R) loop (fun _ _ _ _ => none) c
  | .seq a b => ⟨loopS_no a, loopS_no b⟩
  | .cond _ a b => ⟨loopS_no a, loopS_no b⟩
  | .block _ a => loopS_no a
  | .loop _ _ => fun _ _ _ h => by cases h
  | .skip | .region _ _ | .exit _ | .ret => trivial
theorem clone_body {IP : Prog} {f : Nat} {F : Fun} {sz bytes : Nat} {b c : Bool} {x : Res × Heap}
    (hb : ∀ es : List AV, bodyK (R := Res × Heap) IP (fun _ _ _ _ _ => none) (fun _ _ _ _ => none) f F [.view sz es] [] (fun r h => some (r, h)) =
      br (decide (es.length ≠ 0)) (br (decide (es.length = 0) && b) (some x) (br (decide (es.length ≠ 0) && (c && room es.length bytes)) (some (.ret (.own 0 0 none), [(0, .arr sz es false)])) none)) none) (hc : c = true) (es : List AV)
    (h0 : es.length ≠ 0) (h1 : es.length * bytes ≤ lim) : body IP noC noL f F [.view sz es] [] = some (.ret (.own 0 0 none), [(0, .arr sz es false)]) := by
  have hq := hb es
  have e1 : decide (es.length ≠ 0) = true := decide_eq_true h0
  have e2 : decide (es.length = 0) = false := decide_eq_false h0
  have e3 : room es.length bytes = true := decide_eq_true h1
  rw [e1, e2, e3, hc] at hq
  obtain ⟨r, h', h2, h3⟩ := bodyK_sound (call := noC) (loop := noL) (fun R f a h K ρ hs => by cases hs) (loopS_no _) hq
  rw [h2]
  exact h3
def cloneE (sz bytes : Nat) : Ent := fun a h => match a, h with
  | [.view sz' es], [] => if sz' = sz then [(decide (es.length = 0), .ret (.nils ⟨sz, .any⟩), []), (decide (es.length ≠ 0) && decide (es.length * bytes ≤ lim), .ret (.own 0 0 none), [(0, .arr sz es false)])] else []
  | _, _ => []
theorem cloneE_ok {IP : Prog} {f sz bytes : Nat} (hF : IP.fn f = none) (hS : IP.spec f = some (cloneG sz bytes)) : Snd IP f (cloneE sz bytes) := by
  intro a h r h' hm
  refine callO_spec hF hS ?_
  unfold cloneE at hm
  split at hm
  · rename_i sz' es
    split at hm
    · rename_i hs
      subst hs
      simp only [List.mem_cons, Prod.mk.injEq, List.not_mem_nil, or_false] at hm
      rcases hm with ⟨hb, rfl, rfl⟩ | ⟨hb, rfl, rfl⟩ <;> simp only [eq_comm (a := true), Bool.and_eq_true, decide_eq_true_eq] at hb
      · simp [cloneG, hb]
      · simp only [cloneG, if_true]
        rw [if_neg hb.1, if_pos hb.2]
    · cases hm
  · cases hm
end Go.Eng
namespace Go.Eng
def big : Nat := 9223372036854775807
theorem wrap64 {n : Int} (h1 : -9223372036854775808 ≤ n) (h2 : n ≤ 9223372036854775807) : IntKind.i64.wrap n = n := by
  simp [IntKind.wrap, IntKind.signed, IntKind.bits]
  split <;> omega
theorem wrap_succ {n m : Nat} (h : n < m) (hm : m ≤ big) : IntKind.i64.wrap ((n : Int) + 1) = ((n + 1 : Nat) : Int) := by
  simp only [big] at hm
  rw [wrap64 (by omega) (by omega)]; simp
section
variable {τ : Type} {av : τ → AV} {ks : List CS}
theorem atIdx_map (l : List τ) (n : Nat) : atIdx (l.map av) (n : Int) = (l[n]?).map av := by simp [atIdx]
theorem okAt_map (hk : ∀ x, okCs ks (cellsA (av x)) = true) (l : List τ) (n : Nat) : okAt ks (l.map av) (n : Int) = decide (n < l.length) := by
  simp only [okAt, atIdx_map]
  by_cases h : n < l.length
  · simp [h, hk]
  · simp [h]
theorem okAt_at (hk : ∀ x, okCs ks (cellsA (av x)) = true) {l : List τ} {n : Nat} (h : n < l.length) : okAt ks (l.map av) (n : Int) = true := by
  rw [okAt_map hk, decide_eq_true h]
theorem cellAt_map {l : List τ} {n : Nat} (h : n < l.length) (j : Nat) : cellAt (l.map av) (n : Int) j = ((cellsA (av l[n]))[j]?).getD .junk := by
  simp [cellAt, atIdx_map, h]
theorem cellN_map {l : List τ} {n : Nat} (h : n < l.length) (j : Nat) : cellN (l.map av) n j = ((cellsA (av l[n]))[j]?).getD .junk := by
  simp [cellN, h]
theorem okP_map {l : List τ} {n off : Nat} (h : n < l.length) : okP ks (l.map av) n off = okCs ks (((cellsA (av l[n])).drop off).take ks.length) := by
  simp [okP, h]
theorem okS_map {l : List τ} {n off m : Nat} (h : n < l.length) : okS (l.map av) n off m = decide (off + m ≤ (cellsA (av l[n])).length) := by
  simp [okS, h]
theorem setE_map {l : List τ} {n off : Nat} {vs : List AV} (h : n < l.length) {y : τ} (hy : elemOf (av l[n]) (splice (cellsA (av l[n])) off vs) = av y) : setE (l.map av) n off vs = (l.set n y).map av := by
  simp [setE, h, hy, List.map_set]
theorem inB_at {l n : Nat} (h : n < l) : inB l (n : Int) = true := by simp [inB, h]
theorem byteAt_at {s : List UInt8} {n : Nat} (h : n < s.length) : byteAt s (n : Int) = ((s[n]).toNat : Int) := by
  simp [byteAt, atIdx, h]
theorem lt_at {n m : Nat} (h : n < m) : decide ((n : Int) < (m : Int)) = true := by simp [h]
theorem room_of {n b : Nat} (h : n * b ≤ lim) : room n b = true := decide_eq_true h
end
theorem drop_at {τ : Type} {l : List τ} {n : Nat} (h : n < l.length) : l.drop n = l[n] :: l.drop (n + 1) := List.drop_eq_getElem_cons h
theorem loop_steps {τ : Type} {st : τ → Option (Rd τ)} (hd : Nat → τ) (K j : Nat) : ∀ (n : Nat), n ≤ K → (∀ m, n ≤ m → m < K → st (hd m) = some (.next (hd (m + 1)))) → st (hd K) = some (.done j) → iterO st (hd n) = some (j, hd K) := by
  intro n hn hs he
  obtain ⟨d, rfl⟩ : ∃ d, K = n + d := ⟨K - n, by omega⟩
  clear hn
  induction d generalizing n with
  | zero => exact iterO_done he
  | succ d ih =>
    rw [iterO_next (hs n (Nat.le_refl _) (by omega))]
    have := ih (n + 1) (fun m h1 h2 => hs m (by omega) (by omega)) (by rw [show n + 1 + d = n + (d + 1) by omega]; exact he)
    rw [this, show n + 1 + d = n + (d + 1) by omega]
def seek {α : Type} (p : α → Bool) (jx : α → Nat) (je : Nat) (l : List α) : Nat := match l.find? p with
  | some x => jx x
  | none => je
theorem loop_search {α τ : Type} {st : τ → Option (Rd τ)} {l : List α} (hd : Nat → τ) (p : α → Bool) (jx : α → Nat) (je : Nat)
    (hs : ∀ n (h : n < l.length), st (hd n) = some (bif p l[n] then .done (jx l[n]) else .next (hd (n + 1)))) (he : st (hd l.length) = some (.done je)) :
    iterO st (hd 0) = some (seek p jx je l, hd (l.findIdx p)) := by
  unfold seek
  cases hf : l.find? p with
  | none =>
    have hn : ∀ x ∈ l, ¬ p x = true := by simpa using List.find?_eq_none.1 hf
    have hi : l.findIdx p = l.length := List.findIdx_eq_length.2 (by intro x hx; simpa using hn x hx)
    rw [hi]
    exact loop_steps hd l.length je 0 (Nat.zero_le _) (fun m _ hm => by rw [hs m hm, Bool.eq_false_iff.2 (hn _ (List.getElem_mem hm))]; rfl) he
  | some x =>
    have hp : p x = true := List.find?_some hf
    have hlt : l.findIdx p < l.length := List.findIdx_lt_length.2 ⟨x, List.mem_of_find?_eq_some hf, hp⟩
    have hx : l[l.findIdx p] = x := by
      have := List.getElem?_eq_getElem hlt
      rw [List.find?_eq_getElem?_findIdx] at hf
      rw [this] at hf; exact Option.some.inj hf
    refine loop_steps hd (l.findIdx p) (jx x) 0 (Nat.zero_le _) (fun m _ hm => ?_) ?_
    · rw [hs m (by omega), List.not_of_lt_findIdx hm]; rfl
    · rw [hs _ hlt, hx, hp]; rfl
theorem loop_searchI {τ : Type} {st : τ → Option (Rd τ)} (N : Nat) (hd : Nat → τ) (p : Nat → Bool) (jx : Nat → Nat) (je : Nat)
    (hs : ∀ n, n < N → st (hd n) = some (bif p n then .done (jx n) else .next (hd (n + 1)))) (he : st (hd N) = some (.done je)) :
    iterO st (hd 0) = some (seek p jx je (List.range N), hd ((List.range N).findIdx p)) :=
  loop_search (l := List.range N) hd p jx je (fun n h => by rw [List.getElem_range]; exact hs n (by simpa using h)) (by simpa using he)
theorem seek_const {α : Type} {p : α → Bool} {j je : Nat} {l : List α} : seek p (fun _ => j) je l = bif l.any p then j else je := by
  unfold seek
  cases hf : l.find? p with
  | none =>
    have : l.any p = false := by simpa using hf
    rw [this]; rfl
  | some x =>
    have : l.any p = true := List.any_eq_true.2 ⟨x, List.mem_of_find?_eq_some hf, List.find?_some hf⟩
    rw [this]; rfl
def foldI {α σ : Type} (f : Nat → σ → α → σ) : Nat → σ → List α → σ
  | _, a, [] => a
  | n, a, x :: l => foldI f (n + 1) (f n a x) l
theorem foldI_const {α σ : Type} {f : σ → α → σ} : ∀ {l : List α} {n : Nat} {a : σ}, foldI (fun _ => f) n a l = l.foldl f a
  | [], _, _ => rfl
  | x :: l, n, a => by simp only [foldI, List.foldl_cons]; exact foldI_const
theorem loop_foldI {α σ τ : Type} {st : τ → Option (Rd τ)} {l : List α} (hd : Nat → σ → τ) (f : Nat → σ → α → σ) (jx : σ → Nat) (inv : Nat → σ → Prop) {a : σ} (h0 : inv 0 a)
    (hi : ∀ n a (h : n < l.length), inv n a → inv (n + 1) (f n a l[n]))
    (hs : ∀ n a (h : n < l.length), inv n a → st (hd n a) = some (.next (hd (n + 1) (f n a l[n])))) (he : ∀ a, inv l.length a → st (hd l.length a) = some (.done (jx a))) :
    iterO st (hd 0 a) = some (jx (foldI f 0 a l), hd l.length (foldI f 0 a l)) := by
  have key : ∀ (k n : Nat) (a : σ), n + k = l.length → inv n a → iterO st (hd n a) = some (jx (foldI f n a (l.drop n)), hd l.length (foldI f n a (l.drop n))) := by
    intro k
    induction k with
    | zero =>
      intro n a hn ha
      have : n = l.length := by omega
      subst this
      rw [iterO_done (he a ha)]; simp [foldI]
    | succ k ih =>
      intro n a hn ha
      have h : n < l.length := by omega
      rw [iterO_next (hs n a h ha), ih (n + 1) _ (by omega) (hi n a h ha), drop_at h]
      rfl
  have := key l.length 0 a (by omega) h0
  simpa using this
theorem loop_fold {α σ τ : Type} {st : τ → Option (Rd τ)} {l : List α} (hd : Nat → σ → τ) (f : σ → α → σ) (jx : σ → Nat) (inv : Nat → σ → Prop) {a : σ} (h0 : inv 0 a)
    (hi : ∀ n a (h : n < l.length), inv n a → inv (n + 1) (f a l[n]))
    (hs : ∀ n a (h : n < l.length), inv n a → st (hd n a) = some (.next (hd (n + 1) (f a l[n])))) (he : ∀ a, inv l.length a → st (hd l.length a) = some (.done (jx a))) :
    iterO st (hd 0 a) = some (jx (l.foldl f a), hd l.length (l.foldl f a)) := by
  have := loop_foldI (st := st) (l := l) hd (fun _ => f) jx inv h0 hi hs he
  rwa [foldI_const] at this
end Go.Eng
namespace Go.Eng
inductive LKd where
  | i | b | s | l | n | m
def kdA : PA → List LKd
  | .int _ => [.i]
  | .bool => [.b]
  | .str => [.s]
  | .view _ => [.l]
  | .ownn _ _ => [.n]
  | .agg ps => kdAs ps
  | .tup ps => kdAs ps
  | .ptr ps => kdAs ps
  | .fn _ ps => kdAs ps
  | .iface _ p => kdA p
  | _ => []
where kdAs : List PA → List LKd
  | [] => []
  | p :: ps => kdA p ++ kdAs ps
def kdB : PB → List LKd
  | .box ps _ => kdA.kdAs ps
  | .arr _ _ => [.l]
  | .mp => [.m]
def kdH : List (Nat × PB) → List LKd
  | [] => []
  | (_, b) :: r => kdB b ++ kdH r
def kdE : List (Nat × PA) → List LKd
  | [] => []
  | (_, b) :: r => kdA b ++ kdE r
def kdArgs (p : PArgs) : List LKd := kdA.kdAs p.as ++ kdH p.hp
def kdRes (p : PRes) : List LKd := kdA p.v ++ kdH p.hp
def kdSt (p : PSt) : List LKd := kdE p.tm ++ kdH p.hp
abbrev TyK : LKd → Type
  | .i => Int
  | .b => Bool
  | .s => List UInt8
  | .l => List AV
  | .n => Nat
  | .m => List (AV × AV)
abbrev Tup : List LKd → Type
  | [] => Unit
  | [k] => TyK k
  | k :: ks => TyK k × Tup ks
abbrev Sums : List (List LKd) → Type
  | [] => Empty
  | [k] => Tup k
  | k :: ks => Tup k ⊕ Sums ks
def toLf : (k : LKd) → TyK k → Lf
  | .i, x => .i x
  | .b, x => .b x
  | .s, x => .s x
  | .l, x => .l x
  | .n, x => .n x
  | .m, x => .m x
def ofLf : (k : LKd) → Lf → Option (TyK k)
  | .i, .i x => some x
  | .b, .b x => some x
  | .s, .s x => some x
  | .l, .l x => some x
  | .n, .n x => some x
  | .m, .m x => some x
  | _, _ => none
theorem ofLf_ok : ∀ {k : LKd} {x : Lf} {v : TyK k}, ofLf k x = some v → x = toLf k v := by
  intro k x v h
  cases k <;> cases x <;> simp only [ofLf, Option.some.injEq, reduceCtorEq] at h <;> subst h <;> rfl
def toL : (ks : List LKd) → Tup ks → List Lf
  | [], _ => []
  | [k], v => [toLf k v]
  | k :: k' :: ks, v => toLf k v.1 :: toL (k' :: ks) v.2
def ofL : (ks : List LKd) → List Lf → Option (Tup ks)
  | [], [] => some ()
  | [k], [x] => ofLf k x
  | k :: k' :: ks, x :: ls => match ofLf k x with
    | some y => match ofL (k' :: ks) ls with
      | some ys => some (y, ys)
      | none => none
    | none => none
  | _, _ => none
theorem ofL_ok : ∀ {ks : List LKd} {ls : List Lf} {v : Tup ks}, ofL ks ls = some v → ls = toL ks v
  | [], [], v, _ => rfl
  | [], _ :: _, v, h => by simp [ofL] at h
  | [k], [], v, h => by simp [ofL] at h
  | [k], [x], v, h => by simp only [ofL] at h; rw [ofLf_ok h]; rfl
  | [k], _ :: _ :: _, v, h => by simp [ofL] at h
  | k :: k' :: ks, [], v, h => by simp [ofL] at h
  | k :: k' :: ks, x :: ls, v, h => by
    simp only [ofL] at h
    split at h
    · rename_i y hy
      split at h
      · rename_i ys hys
        cases h
        rw [ofLf_ok hy, ofL_ok hys]; rfl
      · cases h
    · cases h
def aE (p : PArgs) (v : Tup (kdArgs p)) : List AV := (fArgs p (toL (kdArgs p) v)).1
def aH (p : PArgs) (v : Tup (kdArgs p)) : Heap := (fArgs p (toL (kdArgs p) v)).2
def aD (p : PArgs) (a : List AV) (h : Heap) : Option (Tup (kdArgs p)) := match mArgs p a h with
  | some ls => ofL (kdArgs p) ls
  | none => none
theorem aD_ok {p : PArgs} {a : List AV} {h : Heap} {v : Tup (kdArgs p)} (hh : aD p a h = some v) : a = aE p v ∧ h = aH p v := by
  unfold aD at hh
  split at hh
  · rename_i ls hm
    have h1 := mArgs_ok hm
    rw [ofL_ok hh] at h1
    exact ⟨congrArg Prod.fst h1, congrArg Prod.snd h1⟩
  · cases hh
abbrev RT (rs : List PRes) : Type := Sums (rs.map kdRes)
def rE : (rs : List PRes) → RT rs → Res × Heap
  | [], v => nomatch v
  | [r], v => fRes r (toL (kdRes r) v)
  | r :: _ :: _, .inl v => fRes r (toL (kdRes r) v)
  | _ :: r' :: rs, .inr v => rE (r' :: rs) v
def rD : (rs : List PRes) → Res → Heap → Option (RT rs)
  | [], _, _ => none
  | [r], x, h => match mRes r x h with
    | some ls => ofL (kdRes r) ls
    | none => none
  | r :: r' :: rs, x, h => match mRes r x h with
    | some ls => match ofL (kdRes r) ls with
      | some v => some (.inl v)
      | none => none
    | none => match rD (r' :: rs) x h with
      | some v => some (.inr v)
      | none => none
theorem rD_ok : ∀ {rs : List PRes} {x : Res} {h : Heap} {v : RT rs}, rD rs x h = some v → (x, h) = rE rs v
  | [], x, h, v, hh => by simp [rD] at hh
  | [r], x, h, v, hh => by
    simp only [rD] at hh
    split at hh
    · rename_i ls hm
      rw [mRes_ok hm, ofL_ok hh]; rfl
    · cases hh
  | r :: r' :: rs, x, h, v, hh => by
    simp only [rD] at hh
    split at hh
    · rename_i ls hm
      split at hh
      · rename_i w hw
        cases hh
        rw [mRes_ok hm, ofL_ok hw]; rfl
      · cases hh
    · split at hh
      · rename_i w hw
        cases hh
        exact (rD_ok hw).trans rfl
      · cases hh
instance instTupI : ∀ ks : List LKd, Inhabited (Tup ks)
  | [] => ⟨()⟩
  | [.i] => ⟨0⟩ | [.b] => ⟨false⟩ | [.s] => ⟨[]⟩ | [.l] => ⟨[]⟩ | [.n] => ⟨0⟩ | [.m] => ⟨[]⟩
  | .i :: k :: ks => ⟨(0, (instTupI (k :: ks)).default)⟩
  | .b :: k :: ks => ⟨(false, (instTupI (k :: ks)).default)⟩
  | .s :: k :: ks => ⟨([], (instTupI (k :: ks)).default)⟩
  | .l :: k :: ks => ⟨([], (instTupI (k :: ks)).default)⟩
  | .n :: k :: ks => ⟨(0, (instTupI (k :: ks)).default)⟩
  | .m :: k :: ks => ⟨([], (instTupI (k :: ks)).default)⟩
def rL : (rs : List PRes) → Option (RT rs) → List (Bool × Res × Heap)
  | [], _ => []
  | [r], o => [(sm o, fRes r (toL (kdRes r) (@gv _ (instTupI _) o)))]
  | r :: r' :: rs, o => (sm (pl o), fRes r (toL (kdRes r) (@gv _ (instTupI _) (pl o)))) :: rL (r' :: rs) (pr o)
end Go.Eng
namespace Go.Eng
def FE (p : PArgs) (rs : List PRes) (G : Tup (kdArgs p) → Option (RT rs)) : Ent := fun a h => match aD p a h with
  | some v => rL rs (G v)
  | none => []
def FH (IP : Prog) (f : Nat) (p : PArgs) (rs : List PRes) (G : Tup (kdArgs p) → Option (RT rs)) : Prop := ∀ v y, G v = some y → callO IP f (aE p v) (aH p v) = some (rE rs y)
theorem rL_ok : ∀ {rs : List PRes} {o : Option (RT rs)} {r : Res} {h : Heap}, (true, r, h) ∈ rL rs o → ∃ y, o = some y ∧ rE rs y = (r, h)
  | [], o, r, h, hm => by cases hm
  | [a], o, r, h, hm => by
    simp only [rL, List.mem_singleton, Prod.mk.injEq] at hm
    obtain ⟨hb, hr⟩ := hm
    exact ⟨_, @sm_of _ (instTupI (kdRes a)) o hb.symm, hr.symm⟩
  | a :: b :: rs, o, r, h, hm => by
    simp only [rL, List.mem_cons, Prod.mk.injEq] at hm
    rcases hm with ⟨hb, hr⟩ | hm
    · exact ⟨_, pl_some (@sm_of _ (instTupI (kdRes a)) (pl o) hb.symm), hr.symm⟩
    · obtain ⟨y, h1, h2⟩ := rL_ok hm
      exact ⟨_, pr_some h1, h2⟩
theorem FE_ok {IP : Prog} {f : Nat} {p : PArgs} {rs : List PRes} {G : Tup (kdArgs p) → Option (RT rs)} (hG : FH IP f p rs G) : Snd IP f (FE p rs G) := by
  intro a h r h' hm
  unfold FE at hm
  split at hm
  · rename_i v hv
    obtain ⟨y, h1, h2⟩ := rL_ok hm
    obtain ⟨rfl, rfl⟩ := aD_ok hv
    rw [hG _ _ h1, h2]
  · cases hm
theorem fun_FH {IP : Prog} {T : Tab} {L : LTab} {f : Nat} {F : Fun} {p : PArgs} {rs : List PRes} {G : Tup (kdArgs p) → Option (RT rs)} {t : Tup (kdArgs p) → DT (RT rs)} (hT : TabOk IP T) (hL : LOk IP L (loops F.body)) (hF : IP.fn f = some F)
    (hb : ∀ v, bodyK (R := RT rs) IP (callT T) (loopT L) f F (aE p v) (aH p v) (rD rs) = (t v).ev) (hG : ∀ v, G v = (t v).ev) : FH IP f p rs G :=
  fun v _ h => fun_of hT hF hL (fun _ _ _ h => rD_ok h) (hb v) ((hG v).symm.trans h)
theorem lim_FH {IP : Prog} {f : Nat} {p : PArgs} {rs : List PRes} {s : Nat → Tup (kdArgs p) → Option (RT rs)} (h : ∀ n, FH IP f p rs (s n)) : FH IP f p rs (fun v => limO fun n => s n v) :=
  fun v y hv => (limO_some hv).elim fun n hn => h n v y hn
theorem cst_FH {IP : Prog} {f : Nat} {p : PArgs} {rs : List PRes} {G : Tup (kdArgs p) → Option (RT rs)} {y0 : RT rs} (hG : ∀ v, G v = some y0) (hc : ∀ v, (oracle IP 60).1 f (aE p v) (aH p v) = some (rE rs y0)) : FH IP f p rs G :=
  fun v y h => by
    rw [hG v] at h; cases h
    exact callO_iff.2 ⟨60, hc v⟩
def hE : (hs : List PSt) → Sums (hs.map kdSt) → St
  | [], v => nomatch v
  | [r], v => fSt r (toL (kdSt r) v)
  | r :: _ :: _, .inl v => fSt r (toL (kdSt r) v)
  | _ :: r' :: rs, .inr v => hE (r' :: rs) v
def hD : (hs : List PSt) → St → Option (Sums (hs.map kdSt))
  | [], _ => none
  | [r], s => match mSt r s with
    | some ls => ofL (kdSt r) ls
    | none => none
  | r :: r' :: rs, s => match mSt r s with
    | some ls => match ofL (kdSt r) ls with
      | some v => some (.inl v)
      | none => none
    | none => match hD (r' :: rs) s with
      | some v => some (.inr v)
      | none => none
theorem hD_ok : ∀ {hs : List PSt} {s : St} {v : Sums (hs.map kdSt)}, hD hs s = some v → s = hE hs v
  | [], s, v, hh => by simp [hD] at hh
  | [r], s, v, hh => by
    simp only [hD] at hh
    split at hh
    · rename_i ls hm
      rw [← mSt_ok hm, ofL_ok hh]; rfl
    · cases hh
  | r :: r' :: rs, s, v, hh => by
    simp only [hD] at hh
    split at hh
    · rename_i ls hm
      split at hh
      · rename_i w hw
        cases hh
        rw [← mSt_ok hm, ofL_ok hw]; rfl
      · cases hh
    · split at hh
      · rename_i w hw
        cases hh
        exact (hD_ok hw).trans rfl
      · cases hh
def exN {τ : Type} (l : List (τ → X × St)) (j : Nat) (v : τ) : X × St := match l[j]? with
  | some g => g v
  | none => (.ret, ⟨[], [], 0, 0⟩)
def exB {τ : Type} (l : List (τ → X × St)) (j : Nat) (v : τ) : Bool := outB (exN l j v).1
def entY {τ : Type} [Inhabited τ] (o : Option (Nat × τ)) (l : List (τ → X × St)) : Nat → Nat → List (Bool × X × St)
  | _, 0 => []
  | j, n + 1 => ((match exB l j (gv (pj j o)) with | true => sm (pj j o) | false => false), (exN l j (gv (pj j o))).1, (exN l j (gv (pj j o))).2) :: entY o l (j + 1) n
theorem entY_ok {τ : Type} [Inhabited τ] {o : Option (Nat × τ)} {l : List (τ → X × St)} {x : X} {s : St} : ∀ {j n : Nat}, (true, x, s) ∈ entY o l j n → ∃ k w, o = some (k, w) ∧ (x, s) = exN l k w ∧ outB (exN l k w).1 = true
  | j, 0, h => by simp [entY] at h
  | j, n + 1, h => by
    simp only [entY, List.mem_cons, Prod.mk.injEq] at h
    rcases h with ⟨hb, hx, hs⟩ | h
    · cases hq : exB l j (gv (pj j o)) with
      | false => rw [hq] at hb; cases hb
      | true =>
        rw [hq] at hb
        exact ⟨j, _, pj_eq (sm_of hb.symm), by rw [hx, hs], hq⟩
    · exact entY_ok h
def LE {τ : Type} [Inhabited τ] (dec : St → Option τ) (lo : τ → Option (Nat × τ)) (l : List (τ → X × St)) : LEnt := fun s => match dec s with
  | some v => entY (lo v) l 0 l.length
  | none => []
def cvX {τ : Type} (l : List (τ → X × St)) (v : τ) : DT (Rd τ) → DT (Rx τ)
  | .no => .no
  | .at (.next w) => .at (.next w)
  | .at (.done j) => .at (.out (exN l j v).1 (exN l j v).2)
  | .br b x y => .br b (cvX l v x) (cvX l v y)
theorem cvX_eq {τ : Type} {l : List (τ → X × St)} {v : τ} : ∀ {t : DT (Rd τ)}, cvX l v t = cvD (fun j => exN l j v) t
  | .no => rfl
  | .at (.next w) => rfl
  | .at (.done j) => rfl
  | .br b x y => by simp only [cvX, cvD, cvX_eq (t := x), cvX_eq (t := y)]
theorem loop_LE {IP : Prog} {T : Tab} {L : LTab} {keep : List Nat} {c : ICode} {hs : List PSt} (I : Inhabited (Sums (hs.map kdSt))) {ex : List (Sums (hs.map kdSt) → X × St)} {st : Sums (hs.map kdSt) → DT (Rd (Sums (hs.map kdSt)))} {lo : Sums (hs.map kdSt) → Option (Nat × Sums (hs.map kdSt))} (hT : TabOk IP T) (hL : LOk IP L (loops c))
    (hlo : ∀ v, lo v = iterO (fun v => (st v).ev) v) (hn : ∀ v, norm (hk keep) (hE hs v) = some (hE hs v))
    (hst : ∀ v, execK IP (callT T) (loopT L) c (hE hs v) (endK keep (hD hs)) = (cvX ex v (st v)).ev) : Told IP keep c (LE (hD hs) lo ex) := by
  have key : ∀ v j w, lo v = some (j, w) → outB (exN ex j w).1 = true → loopO IP keep c (hE hs v) = some (exN ex j w) := by
    intro v j w h ho
    rw [hlo] at h
    have h2 : ∀ v, execK IP (callT T) (loopT L) c (hE hs v) (endK keep (hD hs)) = cv (fun j => exN ex j v) ((st v).ev) := fun v => (hst v).trans (by rw [cvX_eq, cvD_ev])
    replace h := iterO_iff.1 h
    obtain ⟨n, h⟩ := h
    induction n generalizing v with
    | zero => simp [iterN] at h
    | succ n ih =>
      simp only [iterN] at h
      split at h
      · rename_i v' hs'
        have hx := h2 v
        rw [hs'] at hx
        obtain ⟨x, s', h3, h4⟩ := execK_sound (fun R => callT_ok hT) (loopT_ok hL) hx
        cases x with
        | normal =>
          simp only [endK] at h4
          split at h4
          · rename_i s1 hs1
            split at h4
            · rename_i v2 hv2
              cases h4
              have := hD_ok hv2
              subst this
              exact loopO_of (hn v) h3 (loopO_norm (by rw [hs1, hn v']) (ih v' h))
            · cases h4
          · cases h4
        | _ =>
          simp only [endK] at h4
          split at h4 <;> cases h4
      · rename_i j' hs'
        cases h
        have hx := h2 w
        rw [hs'] at hx
        obtain ⟨x, s', h3, h4⟩ := execK_sound (fun R => callT_ok hT) (loopT_ok hL) hx
        cases x with
        | normal =>
          simp only [endK] at h4
          split at h4
          · split at h4 <;> cases h4
          · cases h4
        | _ =>
          simp only [endK] at h4
          split at h4
          · rename_i x2 s2 ho
            simp only [Option.some.injEq, Rx.out.injEq] at h4
            obtain ⟨h5, h6⟩ := h4
            exact loopO_of (hn w) h3 (by simp only [ho, h5, h6])
          · cases h4
      · cases h
  refine ⟨fun s x s' hm => ?_, fun s hne => ?_⟩
  · unfold LE at hm
    split at hm
    · rename_i v hv
      obtain ⟨k, w, h1, h2, h3⟩ := entY_ok hm
      rw [hD_ok hv, key v k w h1 h3, ← h2]
    · cases hm
  · unfold LE at hne
    split at hne
    · rename_i v hv
      rw [hD_ok hv]; exact hn v
    · exact absurd rfl hne
end Go.Eng
namespace Go.Eng
section
variable {T : TypeId → List Sh}
theorem fit_int {d : Nat} {k : IntKind} {x : AV} (h : Fit maxLen T d (.int k) x) : ∃ n, x = .int k n ∧ (Lit.int k n).wf = true := by
  cases d with
  | zero => exact h.elim
  | succ d => exact h
theorem fit_str {d : Nat} {x : AV} (h : Fit maxLen T d .str x) : ∃ s, x = .str s ∧ s.length ≤ big := by
  cases d with
  | zero => exact h.elim
  | succ d => obtain ⟨n, h, hl⟩ := h; exact ⟨n, h, Nat.le_trans hl (by decide)⟩
theorem list_of {α τ : Type} {f : τ → α} {p : τ → Prop} : ∀ {l : List α}, (∀ e ∈ l, ∃ x, e = f x ∧ p x) → ∃ m : List τ, l = m.map f ∧ ∀ x ∈ m, p x
  | [], _ => ⟨[], rfl, by simp⟩
  | e :: l, h => by
    obtain ⟨x, rfl, hx⟩ := h e (by simp)
    obtain ⟨m, rfl, hm⟩ := list_of (l := l) fun e he => h e (by simp [he])
    refine ⟨x :: m, rfl, fun y hy => ?_⟩
    rcases List.mem_cons.1 hy with rfl | hy
    · exact hx
    · exact hm y hy
theorem fit_list {d sz : Nat} {t : TypeId} {x : AV} {τ : Type} {av : τ → AV} {p : τ → Prop} (h : Fit maxLen T d (.slice sz true t) x)
    (he : ∀ d xs, FitW (Fit maxLen T d) (T t) xs → ∃ y : τ, .agg xs = av y ∧ p y) : ∃ l : List τ, x = .view sz (l.map av) ∧ l.length ≤ big ∧ ∀ y ∈ l, p y := by
  cases d with
  | zero => exact h.elim
  | succ d =>
    obtain ⟨es, rfl, hl, hx⟩ := h
    obtain ⟨m, rfl, hm⟩ := list_of (f := av) (p := p) (l := es) fun e hx' => by
      obtain ⟨xs, rfl, hf⟩ := hx e hx'
      exact he d xs hf
    exact ⟨m, rfl, Nat.le_trans (by simpa using hl) (by decide), hm⟩
end
end Go.Eng
