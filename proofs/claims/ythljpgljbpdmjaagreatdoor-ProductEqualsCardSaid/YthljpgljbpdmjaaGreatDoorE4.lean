/- A machine of plain values, and that what it says holds of the program. -/
import Derived.Test.YthljpgljbpdmjaaGreatDoorE3
import Derived.Below
import Derived.Shelf.Strings.Fields
import Derived.Shelf.Strings.Count
import Derived.Shelf.Strings.Search1
import Derived.Shelf.Strconv.ParseIntPublic10
import Derived.Shelf.Strconv.AtoiAll
import Derived.Shelf.Strconv.Itoa4
import Derived.Stop.LaidErr
import Derived.Lib.LaidTab
set_option linter.unusedVariables false
set_option linter.unusedSimpArgs false
set_option linter.unnecessarySimpa false
namespace Go.Eng
set_option linter.unusedSectionVars false
variable [Globs]
theorem stays_below {w w' : World} {I : Imm} (ho : ∀ b o, I b o → b < w.heap.size) (hb : RowKit.Below w.heap.size w w') : Stays w w' I where
  size := hb.size
  row := fun b C e h => ⟨C, by rw [hb.block b (Array.getElem?_eq_some_iff.1 h).1]; exact h, rfl⟩
  imm := fun b o hi => by simp only [World.cell?, ad]; rw [hb.block b (ho b o hi)]
  out := ⟨hb.os, hb.output, hb.tape⟩
theorem aft_below {w w' : World} {I I' : Imm} {m : Names} {h : Heap} (H : HeapAt w I m h) (hb : RowKit.Below w.heap.size w w') (hI : ∀ b o, I b o → I' b o) (hN : ∀ b o, I' b o → I b o ∨ w.heap.size ≤ b ∧ b < w'.heap.size) : Aft w w' I I' m m h h where
  stays := stays_below H.old hb
  imm := hI
  names := fun _ _ h => h
  heap := {
    at_ := fun i b hi => by
      obtain ⟨L, hL, hat⟩ := H.at_ i b hi
      refine ⟨L, hL, hat.keep (stays_below H.old hb) hI (fun _ _ h => h) (hb.block _ hat.lt) fun o ho => ?_⟩
      rcases hN _ _ ho with h | h
      · exact h
      · have := hat.lt; omega
    apart := H.apart
    old := fun b o hi => by
      rcases hN b o hi with h | h
      · exact Nat.lt_of_lt_of_le (H.old b o h) hb.size
      · exact h.2
    glob := H.glob.mono (stays_below H.old hb) hI }
  frame := fun b hlt _ => hb.block b hlt
  newI := fun b o hi => (hN b o hi).imp id fun h => .inr h.1
  owns := fun _ h => .inl h
theorem post_below {w w' : World} {I : Imm} {m : Names} {h : Heap} (H : HeapAt w I m h) (hb : RowKit.Below w.heap.size w w') {v : AV} {u : Value} (hu : Rel w' I v m u) : Post w I m h (.ret v) h (.returned u) w' :=
  ⟨I, m, aft_below H hb (fun _ _ h => h) fun _ _ h => .inl h, u, rfl, hu⟩
theorem flat_str : ∀ l : List (List UInt8), flat (l.map .str) = l.map .str
  | [] => rfl
  | s :: l => by
    have := flat_str l
    simp only [flat, List.map_cons, List.flatMap_cons, cellsA] at this ⊢
    rw [this]; rfl
theorem post_strs {w : World} {I : Imm} {m : Names} {h : Heap} (H : HeapAt w I m h) (l : List (List UInt8)) (e : TypeId) :
    Post w I m h (.ret (.view 1 (l.map .str))) h (.returned (.slice (some ⟨w.heap.size, 0, none⟩) l.length l.length)) (w.alloc (.cells (l.map fun s => Value.string ⟨s.toArray⟩).toArray e)) := by
  refine ⟨fun b o => I b o ∨ b = w.heap.size, m, aft_below H ((RowKit.Below.refl _ w).alloc (Nat.le_refl _) _) (fun _ _ => .inl) (fun b o hi => hi.imp id fun h => by simp; omega), _, rfl, ?_⟩
  simp only [Rel]
  refine ⟨some (ad w.heap.size 0), l.length, by simp [ad], by simp, .inr ⟨w.heap.size, 0, rfl, ?_⟩, by simp⟩
  rw [relE_iff]
  refine ⟨fun x hx => ?_, fun i c hc => ⟨.inr rfl, ?_⟩⟩
  · obtain ⟨s, _, rfl⟩ := List.mem_map.1 hx
    rfl
  · rw [flat_str, List.getElem?_map, Option.map_eq_some_iff] at hc
    obtain ⟨s, hs, rfl⟩ := hc
    refine ⟨rfl, .string ⟨s.toArray⟩, ?_, by simp [Rel]⟩
    rw [cell_row (heap_alloc_new w _)]
    simp [hs]
def gOf (E : Ent) : List AV → Heap → Option (Res × Heap) := fun a h => ((E a h).find? fun p => p.1).map fun p => p.2
theorem gOf_ok {IP : Prog} {f : Nat} {E : Ent} (hF : IP.fn f = none) (hS : IP.spec f = some (gOf E)) (h1 : ∀ a h p q, p ∈ E a h → q ∈ E a h → p.1 = true → q.1 = true → p.2 = q.2) : Snd IP f E := by
  intro a h r h' hm
  refine callO_spec hF hS ?_
  unfold gOf
  cases hq : (E a h).find? fun p => p.1 with
  | none => exact absurd rfl (List.find?_eq_none.1 hq _ hm)
  | some q =>
    have hp := List.find?_some hq
    rw [Option.map_some, h1 a h q _ (List.mem_of_find?_eq_some hq) hm hp rfl]
theorem gOf_spec {P : Program} {f : Nat} {E : Ent} (hE : Enterable P f) (h1 : ∀ a h r h', (true, r, h') ∈ E a h → ∀ (w : World) (I : Imm) (m : Names) (vs : List Value), HeapAt w I m h → RelL w I a m vs → Calls P f vs.toArray w (Post w I m h r h')) : SpecOk P f (gOf E) := by
  intro a h r h' hg
  unfold gOf at hg
  rw [Option.map_eq_some_iff] at hg
  obtain ⟨⟨b, q⟩, hq, rfl⟩ := hg
  have hb := List.find?_some hq
  have hm := List.mem_of_find?_eq_some hq
  simp only at hb
  subst hb
  exact ⟨hE, fun w I m vs H _ hr => h1 a h r h' hm w I m vs H hr⟩
end Go.Eng
namespace Go.Eng
open Go.Shelf Go.Proofs
set_option linter.unusedSectionVars false
variable [Globs]
theorem glob_cell {w : World} {I : Imm} (hg : GlobAt w I) {g : Nat} {cs : List AV} (h : Globs.g g = some cs) {i : Nat} {c : AV} (hc : cs[i]? = some c) : ∃ v, w.cell? (ad g i) = some v ∧ Rel w I c m0 v := by
  obtain ⟨_, _, v, hv, hr⟩ := relC_iff.1 (hg g cs h).1 i c hc
  rw [Nat.zero_add] at hv
  exact ⟨v, hv, hr⟩
def asciiCs : List AV := Lib.asciiSpaceTab.map (.int .u8)
def fieldsE : Ent := fun a h => match a, h with
  | [.str s], [] => [(s.all (fun b => decide (b.toNat < 128)) && decide (s.length < 4294967281), .ret (.view 1 ((Lib.fields s).map .str)), [])]
  | _, _ => []
theorem fields_spec {P : Program} {ρ : Ren} (L : Lays.n157 P ρ) (hi9 : (P.info? (ρ.t 9)).map (fun i => (i.zero, i.size, i.bytes)) = some (some (.string ByteArray.empty), 1, 16)) (hE : Enterable P (ρ.f 157))
    (hg : Globs.g (ρ.g 0) = some asciiCs) : SpecOk P (ρ.f 157) (gOf fieldsE) := by
  refine gOf_spec hE fun a h r h' hm w I m vs H hr => ?_
  unfold fieldsE at hm
  split at hm
  · rename_i s
    simp only [List.mem_singleton, Prod.mk.injEq, eq_comm (a := true), Bool.and_eq_true, List.all_eq_true, decide_eq_true_eq] at hm
    obtain ⟨⟨hs, hl⟩, rfl, rfl⟩ := hm
    simp only [RelL, Rel] at hr
    obtain ⟨_, _, rfl, rfl, rfl⟩ := hr
    refine (Any.strings_Fields_core L hi9 ⟨s.toArray⟩ w (by simpa [ByteArray.size] using hl) (fun j b hb => hs b (List.mem_of_getElem? (by simpa using hb))) fun c hc => ?_).mono ?_
    · obtain ⟨v, hv, hr⟩ := glob_cell H.glob hg (i := c) (c := .int .u8 (if Lib.isSp (UInt8.ofNat c) then 1 else 0)) (by
        unfold asciiCs
        rw [List.getElem?_map, List.getElem?_eq_getElem (by rw [Lib.asciiSpaceTab_length]; exact hc), Option.map_some, ← Lib.asciiSpaceTab_at c hc]
        simp [Lib.asciiSpaceTab_length, hc])
      simp only [Rel] at hr
      subst hr
      exact hv
    · rintro e w' ⟨rfl, rfl⟩
      exact post_strs H _ _
  · cases hm
def countE : Ent := fun a h => match a, h with
  | [.str s, .str [c]], [] => [(true, .ret (.int .i64 (Lib.countByte s c)), [])]
  | _, _ => []
theorem count_spec {P : Program} {ρ : Ren} (L : Lays.n138 P ρ) (hE : Enterable P (ρ.f 138)) : SpecOk P (ρ.f 138) (gOf countE) := by
  refine gOf_spec hE fun a h r h' hm w I m vs H hr => ?_
  unfold countE at hm
  split at hm
  · rename_i s c
    simp only [List.mem_singleton, Prod.mk.injEq, true_and] at hm
    obtain ⟨rfl, rfl⟩ := hm
    simp only [RelL, Rel] at hr
    obtain ⟨_, _, rfl, rfl, _, _, rfl, rfl, rfl⟩ := hr
    refine (Any.strings_Count_one L ⟨s.toArray⟩ c w).mono ?_
    rintro e w' ⟨rfl, rfl⟩
    exact post_below H (RowKit.Below.refl _ _) (by simp [Rel])
  · cases hm
def idxE : Ent := fun a h => match a, h with
  | [.str s, .int .u8 c], [] => [(true, .ret (.int .i64 (Lib.indexByte s c.toNat.toUInt8)), [])]
  | _, _ => []
theorem idx_spec {P : Program} {ρ : Ren} (L : Lays.n217 P ρ) (hE : Enterable P (ρ.f 217)) : SpecOk P (ρ.f 217) (gOf idxE) := by
  refine gOf_spec hE fun a h r h' hm w I m vs H hr => ?_
  unfold idxE at hm
  split at hm
  · rename_i s c
    simp only [List.mem_singleton, Prod.mk.injEq, true_and] at hm
    obtain ⟨rfl, rfl⟩ := hm
    simp only [RelL, Rel] at hr
    obtain ⟨_, _, rfl, rfl, _, _, rfl, rfl, rfl⟩ := hr
    refine (Any.stringslite_IndexByte L ⟨s.toArray⟩ c w).mono ?_
    rintro e w' ⟨rfl, rfl⟩
    exact post_below H (RowKit.Below.refl _ _) (by simp [Rel])
  · cases hm
theorem one_ent {E : Ent} (h : ∀ a h, (E a h).length ≤ 1) : ∀ a h p q, p ∈ E a h → q ∈ E a h → p.1 = true → q.1 = true → p.2 = q.2 := by
  intro a b p q hp hq _ _
  have := h a b
  match E a b, this, hp, hq with
  | [x], _, hp, hq => rw [List.mem_singleton.1 hp, List.mem_singleton.1 hq]
theorem fieldsE_one : ∀ a h, (fieldsE a h).length ≤ 1 := by intro a h; unfold fieldsE; split <;> simp
theorem countE_one : ∀ a h, (countE a h).length ≤ 1 := by intro a h; unfold countE; split <;> simp
theorem idxE_one : ∀ a h, (idxE a h).length ≤ 1 := by intro a h; unfold idxE; split <;> simp
end Go.Eng
namespace Go.Eng
open Go.Shelf Go.Proofs
set_option linter.unusedSectionVars false
variable [Globs]
def nOk : Lib.NumEnd Int → Bool
  | .ok _ => true
  | _ => false
def nVal : Lib.NumEnd Int → Int
  | .ok v => v
  | _ => 0
def nRange : Lib.NumEnd Int → Bool
  | .range => true
  | _ => false
def nSyntax (x : Lib.NumEnd Int) : Bool := !nOk x && !nRange x
def errV (t : TypeId) : AV := .iface t (.ptr [])
def numE (t : TypeId) (x : Lib.NumEnd Int) (sat : Int) (b : Bool) : List (Bool × Res × Heap) :=
  [(b && nOk x, .ret (.tup [.int .i64 (nVal x), .nili]), []), (b && nRange x, .ret (.tup [.int .i64 sat, errV t]), []), (b && nSyntax x, .ret (.tup [.int .i64 0, errV t]), [])]
def pOk (s : List UInt8) : Bool := decide (s.length ≤ 281474976710656)
def parseE (t : TypeId) : Ent := fun a h => match a, h with
  | [.str s, .int .i64 10, .int .i64 64], [] => numE t (Lib.parseIntB 64 s) (Lib.intSat 64 s) (pOk s)
  | _, _ => []
def atoiE (t : TypeId) : Ent := fun a h => match a, h with
  | [.str s], [] => numE t (Lib.atoiAll s) (Lib.atoiSat s) (pOk s)
  | _, _ => []
theorem numE_one {t : TypeId} {x : Lib.NumEnd Int} {sat : Int} {b : Bool} {p q : Bool × Res × Heap} (hp : p ∈ numE t x sat b) (hq : q ∈ numE t x sat b) (h1 : p.1 = true) (h2 : q.1 = true) : p.2 = q.2 := by
  cases x <;> cases b <;> simp [numE, nOk, nRange, nSyntax] at hp hq <;> (rcases hp with rfl | rfl | rfl <;> rcases hq with rfl | rfl | rfl <;> simp_all)
theorem parseE_one {t : TypeId} : ∀ a h p q, p ∈ parseE t a h → q ∈ parseE t a h → p.1 = true → q.1 = true → p.2 = q.2 := by
  intro a h p q hp hq
  unfold parseE at hp hq
  split at hp
  · exact numE_one hp hq
  · cases hp
theorem atoiE_one {t : TypeId} : ∀ a h p q, p ∈ atoiE t a h → q ∈ atoiE t a h → p.1 = true → q.1 = true → p.2 = q.2 := by
  intro a h p q hp hq
  unfold atoiE at hp hq
  split at hp
  · exact numE_one hp hq
  · cases hp
theorem below_bytes {w w' : World} {e : TypeId} (h : w' = w ∨ ∃ t, w' = Lib.bytesWorld w e t) : RowKit.Below w.heap.size w w' := by
  rcases h with rfl | ⟨t, rfl⟩
  · exact RowKit.Below.refl _ _
  · exact Lib.bytesWorld_below _ _ _
theorem rel_err {w : World} {I : Imm} {m : Names} {t N : Nat} : Rel w I (errV t) m (.iface t (.pointer (some ⟨N, 0, none⟩))) := by
  simp only [errV, Rel]
  exact ⟨_, rfl, N, 0, rfl, by simp [RelC]⟩
theorem num_post {P : Program} {w : World} {I : Imm} {m : Names} {h : Heap} (H : HeapAt w I m h) {f : Nat} {vs : Array Value} {t e : TypeId} {x : Lib.NumEnd Int} {sat : Int} {b : Bool} {r : Res} {h' : Heap} (hh : h = []) (hm : (true, r, h') ∈ numE t x sat b)
    (h1 : b = true → ∀ v, x = .ok v → Calls P f vs w fun e' w' => e' = .returned (.tuple #[.int .i64 v, .nilIface]) ∧ (w' = w ∨ ∃ t, w' = Lib.bytesWorld w e t))
    (h2 : b = true → x = .range → Calls P f vs w fun e' w' => ∃ N, e' = .returned (.tuple #[.int .i64 sat, .iface t (.pointer (some ⟨N, 0, none⟩))]) ∧ RowKit.Below w.heap.size w w')
    (h3 : b = true → nSyntax x = true → Calls P f vs w fun e' w' => ∃ N, e' = .returned (.tuple #[.int .i64 0, .iface t (.pointer (some ⟨N, 0, none⟩))]) ∧ RowKit.Below w.heap.size w w') : Calls P f vs w (Post w I m h r h') := by
  subst hh
  have hb : b = true := by
    cases b
    · simp [numE] at hm
    · rfl
  subst hb
  rcases x with v | _ | _
  · simp [numE, nOk, nRange, nSyntax, nVal] at hm
    obtain ⟨rfl, rfl⟩ := hm
    refine (h1 rfl v rfl).mono ?_
    rintro e w' ⟨rfl, hw⟩
    exact post_below H (below_bytes hw) (by simp only [Rel, RelL]; exact ⟨_, rfl, _, _, rfl, rfl, _, _, rfl, rfl, rfl⟩)
  · simp [numE, nOk, nRange, nSyntax] at hm
    obtain ⟨rfl, rfl⟩ := hm
    refine (h3 rfl rfl).mono ?_
    rintro e w' ⟨N, rfl, hw⟩
    refine post_below H hw ?_
    have := rel_err (w := w') (I := I) (m := m) (t := t) (N := N)
    simp only [Rel, RelL]
    exact ⟨_, rfl, _, _, rfl, rfl, _, _, rfl, this, rfl⟩
  · simp [numE, nOk, nRange, nSyntax] at hm
    obtain ⟨rfl, rfl⟩ := hm
    refine (h2 rfl rfl).mono ?_
    rintro e w' ⟨N, rfl, hw⟩
    refine post_below H hw ?_
    have := rel_err (w := w') (I := I) (m := m) (t := t) (N := N)
    simp only [Rel, RelL]
    exact ⟨_, rfl, _, _, rfl, rfl, _, _, rfl, this, rfl⟩
theorem glob_err {w : World} {I : Imm} (hg : GlobAt w I) {g : Nat} {te : TypeId} {x : AV} (h : Globs.g g = some [.iface te x]) : ∃ ev, w.cell? ⟨g, 0, none⟩ = some ev ∧ (ev = .nilIface ∨ ∃ te pe, ev = .iface te pe) := by
  obtain ⟨v, hv, hr⟩ := glob_cell hg h (i := 0) (c := .iface te x) rfl
  simp only [Rel] at hr
  obtain ⟨y, rfl, _⟩ := hr
  exact ⟨_, hv, .inr ⟨_, _, rfl⟩⟩
theorem bad_of {x y : Lib.NumEnd Int} (hx : nSyntax x = true) (hy : nSyntax y = true) : x = y := by
  rcases x with _ | _ | _ <;> rcases y with _ | _ | _ <;> first | rfl | (simp [nSyntax, nOk, nRange] at hx; done) | (simp [nSyntax, nOk, nRange] at hy; done)
theorem parse_spec {P : Program} {ρ : Ren} (L : LaysC.n174 P ρ) (hE : Enterable P (ρ.f 174)) {t1 t2 : TypeId} {x1 x2 : AV} (h1 : Globs.g (ρ.g 15) = some [.iface t1 x1]) (h2 : Globs.g (ρ.g 16) = some [.iface t2 x2]) : SpecOk P (ρ.f 174) (gOf (parseE (ρ.t 168))) := by
  refine gOf_spec hE fun a h r h' hm w I m vs H hr => ?_
  unfold parseE at hm
  split at hm
  · rename_i s
    simp only [RelL, Rel] at hr
    obtain ⟨_, _, rfl, rfl, _, _, rfl, rfl, _, _, rfl, rfl, rfl⟩ := hr
    obtain ⟨e1, c1, d1⟩ := glob_err H.glob h1
    obtain ⟨e2, c2, d2⟩ := glob_err H.glob h2
    refine num_post (e := ρ.t 5) H rfl hm (fun hb v hv => ?_) (fun hb hv => ?_) (fun hb hv => ?_) <;> simp only [pOk, decide_eq_true_eq] at hb
    · exact Any.strconv_ParseInt_10_at64_ok L ⟨s.toArray⟩ (by simp [ByteArray.size]; omega) v (by simpa using hv) w
    · refine (Any.strconv_ParseInt_10_at64_range L ⟨s.toArray⟩ (by simpa [ByteArray.size] using hb) (by simpa using hv) e2 w c2 d2).mono ?_
      rintro e w' ⟨N, rfl, _, _, hw⟩
      exact ⟨N, rfl, hw⟩
    · refine (Any.strconv_ParseInt_10_at64_syntax L ⟨s.toArray⟩ (by simpa [ByteArray.size] using hb) (bad_of (by simpa using hv) rfl) e1 w c1 d1).mono ?_
      rintro e w' ⟨N, rfl, _, _, hw⟩
      exact ⟨N, rfl, hw⟩
  · cases hm
theorem atoi_spec {P : Program} {ρ : Ren} (L : LaysC.n172 P ρ) (hE : Enterable P (ρ.f 172)) {t1 t2 : TypeId} {x1 x2 : AV} (h1 : Globs.g (ρ.g 15) = some [.iface t1 x1]) (h2 : Globs.g (ρ.g 16) = some [.iface t2 x2]) : SpecOk P (ρ.f 172) (gOf (atoiE (ρ.t 168))) := by
  refine gOf_spec hE fun a h r h' hm w I m vs H hr => ?_
  unfold atoiE at hm
  split at hm
  · rename_i s
    simp only [RelL, Rel] at hr
    obtain ⟨_, _, rfl, rfl, rfl⟩ := hr
    obtain ⟨e1, c1, d1⟩ := glob_err H.glob h1
    obtain ⟨e2, c2, d2⟩ := glob_err H.glob h2
    refine num_post (e := ρ.t 5) H rfl hm (fun hb v hv => ?_) (fun hb hv => ?_) (fun hb hv => ?_) <;> simp only [pOk, decide_eq_true_eq] at hb
    · exact Any.strconv_Atoi_ok L ⟨s.toArray⟩ (by simp [ByteArray.size]; omega) v (by simpa using hv) w
    · refine (Any.strconv_Atoi_range L ⟨s.toArray⟩ (by simpa [ByteArray.size] using hb) (by simpa using hv) e2 w c2 d2).mono ?_
      rintro e w' ⟨N, rfl, _, _, hw⟩
      exact ⟨N, rfl, hw⟩
    · refine (Any.strconv_Atoi_syntax L ⟨s.toArray⟩ (by simpa [ByteArray.size] using hb) (bad_of (by simpa using hv) rfl) e1 w c1 d1).mono ?_
      rintro e w' ⟨N, rfl, _, _, hw⟩
      exact ⟨N, rfl, hw⟩
  · cases hm
end Go.Eng
namespace Go.Eng
open Go.Shelf
set_option linter.unusedSectionVars false
theorem laid_row {P : Program} {W : World} {n : String} {d : DataW Unit} {r : List (String × DataW Unit)} (h : laidMet P ((n, d) :: r) W) {g : Nat} (hg : P.globalNamed n = some g) {cs : Array Value} (hv : W.var? P n = some cs) (hne : 0 < cs.size) : ∃ e, W.heap[g]? = some (.cells cs e (0, 0)) := by
  obtain ⟨ps, ⟨g0, t0, cs0, f0, p0, q0, hg0, ht0, hv0, hd0, _, e0⟩, _, hrows⟩ := h
  obtain rfl := Option.some.inj (hg.symm.trans hg0)
  obtain rfl := Option.some.inj (hv.symm.trans hv0)
  subst e0
  obtain ⟨c, t, hc⟩ := (hrows g 0 (by
    simp only [MemPlace.row, List.mem_append]
    exact .inl (.inl (by simp; omega)))).1
  unfold World.var? at hv
  rw [hg, Option.bind_some, hc] at hv
  cases hv
  exact ⟨t, hc⟩
def GlobIs (W : World) (I : Imm) (g : Nat) (cs : List AV) : Prop := ∃ (C : Array Value) (e : TypeId), W.heap[g]? = some (Obj.cells C e (0, 0)) ∧ C.size = cs.length ∧ ∀ (i : Nat) (c : AV), cs[i]? = some c → cellOk c = true ∧ ∃ v, C[i]? = some v ∧ Rel W I c m0 v
theorem glob_tab_is {P : Program} {W : World} {I : Imm} {n : String} {k : IntKind} {zs : List Int} {r : List (String × DataW Unit)} (h : laidMet P ((n, Lib.tabData k zs) :: r) W) {g : Nat} {t e : TypeId} {m : Nat}
    (hg : P.globalNamed n = some g) (hty : (P.globals[g]?).map (·.type) = some t) (ht : P.underlying t = some (.array m e)) (he : P.underlying e = some (.int k)) (hce : P.cellsOf e = 1) (hct : P.cellsOf t = m) (hz : 0 < zs.length) : GlobIs W I g (zs.map (.int k)) := by
  have hv := Lib.tabIs_of_head hg hty ht he hce hct h
  unfold Lib.TabIs at hv
  obtain ⟨e', hC⟩ := laid_row h hg hv (by simpa using hz)
  refine ⟨_, e', hC, by simp, fun i c hc => ?_⟩
  rw [List.getElem?_map, Option.map_eq_some_iff] at hc
  obtain ⟨z, hz, rfl⟩ := hc
  exact ⟨rfl, .int k z, by simp [hz], by simp [Rel]⟩
theorem glob_err_is {P : Program} {W : World} {I : Imm} {n nm : String} {text : List UInt8} {r : List (String × DataW Unit)} {g : Nat} {ti tp te ts : TypeId} {ms : Array (String × TypeId)} {f : Field}
    (h : laidMet P ((n, .iface nm (.ptr (.agg [.lit (.string text)]))) :: r) W)
    (hg : P.globalNamed n = some g) (ht : (P.globals[g]?).map (·.type) = some ti) (hi : P.underlying ti = some (.interface ms)) (hrow : ∀ u, P.typeName? 3 u = some nm → u = tp)
    (hp : P.underlying tp = some (.pointer te)) (he : P.underlying te = some (.struct #[f])) (hft : f.type = ts) (hfo : f.offset = 0) (hs : P.underlying ts = some .string) (hc : P.cellsOf te = 1) (hcs : P.cellsOf ts = 1) : GlobIs W I g [errV tp] := by
  obtain ⟨a, s, hv, hcell, _, _⟩ := laid_sentinel h hg ht hi hrow hp he hft hfo hs hc hcs
  obtain ⟨e', hC⟩ := laid_row h hg hv (by simp)
  refine ⟨_, e', hC, by simp, fun i c hi => ?_⟩
  have hi0 : i = 0 ∧ c = errV tp := by
    cases i with
    | zero => simp at hi; exact ⟨rfl, hi.symm⟩
    | succ i => simp at hi
  obtain ⟨rfl, rfl⟩ := hi0
  refine ⟨rfl, _, rfl, ?_⟩
  obtain ⟨b, o, sp⟩ := a
  have hsp : sp = none := by
    cases sp with
    | none => rfl
    | some x =>
      simp only [World.cell?, Option.isSome_some, if_true] at hcell
      split at hcell <;> cases hcell
  subst hsp
  simp only [errV, Rel]
  exact ⟨_, rfl, b, o, rfl, by simp [RelC]⟩
theorem glob_at [Globs] {W : World} {I0 : Imm} (h : ∀ g cs, Globs.g g = some cs → GlobIs W (fun b o => I0 b o ∨ ∃ cs, Globs.g b = some cs ∧ o < cs.length) g cs) : GlobAt W (fun b o => I0 b o ∨ ∃ cs, Globs.g b = some cs ∧ o < cs.length) := by
  intro g cs hg
  obtain ⟨C, e, hC, hsz, hall⟩ := h g cs hg
  refine ⟨relC_iff.2 fun i c hc => ?_, C, e, hC, hsz⟩
  obtain ⟨h1, v, hv, hr⟩ := hall i c hc
  refine ⟨.inr ⟨cs, hg, by rw [Nat.zero_add]; exact (List.getElem?_eq_some_iff.1 hc).1⟩, h1, v, ?_, hr⟩
  rw [Nat.zero_add]
  exact (cell_row hC).trans hv
theorem glob_lt [Globs] {W : World} {I0 I : Imm} (h : ∀ g cs, Globs.g g = some cs → GlobIs W I g cs) (h0 : ∀ b o, I0 b o → b < W.heap.size) : ∀ b o, (I0 b o ∨ ∃ cs, Globs.g b = some cs ∧ o < cs.length) → b < W.heap.size := by
  rintro b o (hb | ⟨cs, hg, _⟩)
  · exact h0 b o hb
  · obtain ⟨C, e, hC, _⟩ := h b cs hg
    exact (Array.getElem?_eq_some_iff.1 hC).1
end Go.Eng
