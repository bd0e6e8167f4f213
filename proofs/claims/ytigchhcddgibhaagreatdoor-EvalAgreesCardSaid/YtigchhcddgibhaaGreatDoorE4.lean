/- A machine of plain values, and that what it says holds of the program. -/
import Derived.Test.YtigchhcddgibhaaGreatDoorE3
import Derived.Below
import Derived.Shelf.Strings.Fields
import Derived.Shelf.Strings.Count
import Derived.Shelf.Strings.Search1
import Derived.Shelf.Strconv.ParseIntPublic10
import Derived.Shelf.Strconv.AtoiAll
import Derived.Shelf.Strconv.Itoa4
import Derived.Test.YtigchhcddgibhaaGreatDoorE2
import Derived.Stop.LaidErr
import Derived.Lib.LaidTab
import Derived.Laws.Externs
import Derived.Shelf.Spec.BitsCarry
import Derived.Shelf.Bits.Mul64
import Derived.Shelf.Small.Bits
set_option linter.unusedVariables false
set_option linter.unusedSimpArgs false
set_option linter.unnecessarySimpa false
namespace Go.Eng
set_option linter.unusedSectionVars false
variable [Globs]
theorem qi5 {w w' : World} {I : Imm} (ho : ∀ b o, I b o → b < w.heap.size) (hb : RowKit.Below w.heap.size w w') : Stays w w' I where
 size := hb.size
 row := fun b C e h => ⟨C, by rw [hb.block b (Array.getElem?_eq_some_iff.1 h).1]; exact h, rfl⟩
 imm := fun b o hi => by simp only [World.cell?, ad]; rw [hb.block b (ho b o hi)]
 out := ⟨hb.os, hb.output, hb.tape⟩
theorem qvY {w w' : World} {I I' : Imm} {m : Names} {h : qan} (H : HeapAt w I m h) (hb : RowKit.Below w.heap.size w w') (hI : ∀ b o, I b o → I' b o) (hN : ∀ b o, I' b o → I b o ∨ w.heap.size ≤ b ∧ b < w'.heap.size) : Aft w w' I I' m m h h where
 stays := qi5 H.old hb
 imm := hI
 names := fun _ _ h => h
 heap := {
  at_ := fun i b hi => by
   obtain ⟨L, hL, hat⟩ := H.at_ i b hi
   refine ⟨L, hL, hat.keep (qi5 H.old hb) hI (fun _ _ h => h) (hb.block _ hat.lt) fun o ho => ?_⟩
   rcases hN _ _ ho with h | h
   ·exact h
   ·have := hat.lt; omega
  apart := H.apart
  old := fun b o hi => by
   rcases hN b o hi with h | h
   ·exact Nat.lt_of_lt_of_le (H.old b o h) hb.size
   ·exact h.2
  glob := H.glob.mono (qi5 H.old hb) hI }
 frame := fun b hlt _ => hb.block b hlt
 newI := fun b o hi => (hN b o hi).imp id fun h => .inr h.1
 owns := fun _ h => .inl h
theorem qbM {w w' : World} {I : Imm} {m : Names} {h : qan} (H : HeapAt w I m h) (hb : RowKit.Below w.heap.size w w') {v : AV} {u : Value} (hu : Rel w' I v m u) : qQ9 w I m h (.ret v) h (.returned u) w' :=
 ⟨I, m, qvY H hb (fun _ _ h => h) fun _ _ h => .inl h, u, rfl, hu⟩
theorem qAV : ∀ l : List (List UInt8), flat (l.map .str) = l.map .str
 | [] => rfl
 | s :: l => by
  have := qAV l
  simp only [flat, List.map_cons, List.flatMap_cons, qad] at this ⊢
  rw [this]; rfl
theorem qNt {w : World} {I : Imm} {m : Names} {h : qan} (H : HeapAt w I m h) (l : List (List UInt8)) (e : TypeId) :
  qQ9 w I m h (.ret (.view 1 (l.map .str))) h (.returned (.slice (some ⟨w.heap.size, 0, none⟩) l.length l.length)) (w.alloc (.cells (l.map fun s => Value.string ⟨s.toArray⟩).toArray e)) := by
 refine ⟨fun b o => I b o ∨ b = w.heap.size, m, qvY H ((RowKit.Below.refl _ w).alloc (Nat.le_refl _) _) (fun _ _ => .inl) (fun b o hi => hi.imp id fun h => by simp; omega), _, rfl, ?_⟩
 simp only [Rel]
 refine ⟨some (ad w.heap.size 0), l.length, by simp [ad], by simp, .inr ⟨w.heap.size, 0, rfl, ?_⟩, by simp⟩
 rw [qhG]
 refine ⟨fun x hx => ?_, fun i c hc => ⟨.inr rfl, ?_⟩⟩
 ·obtain ⟨s, _, rfl⟩ := List.mem_map.1 hx
  rfl
 ·rw [qAV, List.getElem?_map, Option.map_eq_some_iff] at hc
  obtain ⟨s, hs, rfl⟩ := hc
  refine ⟨rfl, .string ⟨s.toArray⟩, ?_, by simp [Rel]⟩
  rw [qec (heap_alloc_new w _)]
  simp [hs]
def gOf (E : Ent) : List AV → qan → Option (Res × qan) := fun a h => ((E a h).find? fun p => p.1).map fun p => p.2
theorem qii {IP : Prog} {f : Nat} {E : Ent} (hF : IP.fn f = none) (hS : IP.spec f = some (gOf E)) (h1 : ∀ a h p q, p ∈ E a h → q ∈ E a h → p.1 = true → q.1 = true → p.2 = q.2) : Snd IP f E := by
 intro a h r h' hm
 refine qrv hF hS ?_
 unfold gOf
 cases hq : (E a h).find? fun p => p.1 with
 | none => exact absurd rfl (List.find?_eq_none.1 hq _ hm)
 | some q =>
  have hp := List.find?_some hq
  rw [Option.map_some, h1 a h q _ (List.mem_of_find?_eq_some hq) hm hp rfl]
theorem qeS {P : Program} {f : Nat} {E : Ent} (hE : qbK P f) (h1 : ∀ a h r h', (true, r, h') ∈ E a h → ∀ (w : World) (I : Imm) (m : Names) (vs : List Value), HeapAt w I m h → qaC w I a m vs → Calls P f vs.toArray w (qQ9 w I m h r h')) : qeO P f (gOf E) := by
 intro a h r h' hg
 unfold gOf at hg
 rw [Option.map_eq_some_iff] at hg
 obtain ⟨⟨b, q⟩, hq, rfl⟩ := hg
 have hb := List.find?_some hq
 have hm := List.mem_of_find?_eq_some hq
 simp only at hb
 subst hb
 exact fun w I m vs H _ hr => .inl ⟨hE, h1 a h r h' hm w I m vs H hr⟩
end Go.Eng
namespace Go.Eng
open Go.Shelf Go.Proofs
set_option linter.unusedSectionVars false
variable [Globs]
theorem qoX {w : World} {I : Imm} (hg : GlobAt w I) {g : Nat} {cs : List AV} (h : Globs.g g = some cs) {i : Nat} {c : AV} (hc : cs[i]? = some c) : ∃ v, w.cell? (ad g i) = some v ∧ Rel w I c m0 v := by
 obtain ⟨_, _, v, hv, hr⟩ := qbT.1 (hg g cs h).1 i c hc
 rw [Nat.zero_add] at hv
 exact ⟨v, hv, hr⟩
def qtm : List AV := Lib.asciiSpaceTab.map (.int .u8)
def qiP : Ent := fun a h => match a, h with
 | [.str s], [] => [(s.all (fun b => decide (b.toNat < 128)) && decide (s.length < 4294967281), .ret (.view 1 ((Lib.fields s).map .str)), [])]
 | _, _ => []
theorem qzK {P : Program} {ρ : Ren} (L : Lays.n157 P ρ) (hi9 : (P.info? (ρ.t 9)).map (fun i => (i.zero, i.size, i.bytes)) = some (some (.string ByteArray.empty), 1, 16)) (hE : qbK P (ρ.f 157))
  (hg : Globs.g (ρ.g 0) = some qtm) : qeO P (ρ.f 157) (gOf qiP) := by
 refine qeS hE fun a h r h' hm w I m vs H hr => ?_
 unfold qiP at hm
 split at hm
 ·rename_i s
  simp only [List.mem_singleton, Prod.mk.injEq, eq_comm (a := true), Bool.and_eq_true, List.all_eq_true, decide_eq_true_eq] at hm
  obtain ⟨⟨hs, hl⟩, rfl, rfl⟩ := hm
  simp only [qaC, Rel] at hr
  obtain ⟨_, _, rfl, rfl, rfl⟩ := hr
  refine (Any.strings_Fields_core L hi9 ⟨s.toArray⟩ w (by simpa [ByteArray.size] using hl) (fun j b hb => hs b (List.mem_of_getElem? (by simpa using hb))) fun c hc => ?_).mono ?_
  ·obtain ⟨v, hv, hr⟩ := qoX H.glob hg (i := c) (c := .int .u8 (if Lib.isSp (UInt8.ofNat c) then 1 else 0)) (by
    unfold qtm
    rw [List.getElem?_map, List.getElem?_eq_getElem (by rw [Lib.asciiSpaceTab_length]; exact hc), Option.map_some, ← Lib.asciiSpaceTab_at c hc]
    simp [Lib.asciiSpaceTab_length, hc])
   simp only [Rel] at hr
   subst hr
   exact hv
  ·rintro e w' ⟨rfl, rfl⟩
   exact qNt H _ _
 ·cases hm
def qnU : Ent := fun a h => match a, h with
 | [.str s, .str [c]], [] => [(true, .ret (.int .i64 (Lib.countByte s c)), [])]
 | _, _ => []
theorem qC3 {P : Program} {ρ : Ren} (L : Lays.n138 P ρ) (hE : qbK P (ρ.f 138)) : qeO P (ρ.f 138) (gOf qnU) := by
 refine qeS hE fun a h r h' hm w I m vs H hr => ?_
 unfold qnU at hm
 split at hm
 ·rename_i s c
  simp only [List.mem_singleton, Prod.mk.injEq, true_and] at hm
  obtain ⟨rfl, rfl⟩ := hm
  simp only [qaC, Rel] at hr
  obtain ⟨_, _, rfl, rfl, _, _, rfl, rfl, rfl⟩ := hr
  refine (Any.strings_Count_one L ⟨s.toArray⟩ c w).mono ?_
  rintro e w' ⟨rfl, rfl⟩
  exact qbM H (RowKit.Below.refl _ _) (by simp [Rel])
 ·cases hm
def q0t : Ent := fun a h => match a, h with
 | [.str s, .int .u8 c], [] => [(true, .ret (.int .i64 (Lib.indexByte s c.toNat.toUInt8)), [])]
 | _, _ => []
theorem qRT {P : Program} {ρ : Ren} (L : Lays.n217 P ρ) (hE : qbK P (ρ.f 217)) : qeO P (ρ.f 217) (gOf q0t) := by
 refine qeS hE fun a h r h' hm w I m vs H hr => ?_
 unfold q0t at hm
 split at hm
 ·rename_i s c
  simp only [List.mem_singleton, Prod.mk.injEq, true_and] at hm
  obtain ⟨rfl, rfl⟩ := hm
  simp only [qaC, Rel] at hr
  obtain ⟨_, _, rfl, rfl, _, _, rfl, rfl, rfl⟩ := hr
  refine (Any.stringslite_IndexByte L ⟨s.toArray⟩ c w).mono ?_
  rintro e w' ⟨rfl, rfl⟩
  exact qbM H (RowKit.Below.refl _ _) (by simp [Rel])
 ·cases hm
theorem qhf {E : Ent} (h : ∀ a h, (E a h).length ≤ 1) : ∀ a h p q, p ∈ E a h → q ∈ E a h → p.1 = true → q.1 = true → p.2 = q.2 := by
 intro a b p q hp hq _ _
 have := h a b
 match E a b, this, hp, hq with
 | [x], _, hp, hq => rw [List.mem_singleton.1 hp, List.mem_singleton.1 hq]
theorem qzJ : ∀ a h, (qiP a h).length ≤ 1 := by intro a h; unfold qiP; split <;> simp
theorem qC2 : ∀ a h, (qnU a h).length ≤ 1 := by intro a h; unfold qnU; split <;> simp
theorem qRS : ∀ a h, (q0t a h).length ≤ 1 := by intro a h; unfold q0t; split <;> simp
end Go.Eng
namespace Go.Eng
open Go.Shelf Go.Proofs
set_option linter.unusedSectionVars false
variable [Globs]
def nOk : Lib.NumEnd Int → Bool
 | .ok _ => true
 | _ => false
def q5f : Lib.NumEnd Int → Int
 | .ok v => v
 | _ => 0
def qij : Lib.NumEnd Int → Bool
 | .range => true
 | _ => false
def qdQ (x : Lib.NumEnd Int) : Bool := !nOk x && !qij x
def qJk (t : TypeId) : AV := .iface t (.ptr [])
def qRb (t : TypeId) (x : Lib.NumEnd Int) (sat : Int) (b : Bool) : List (Bool × Res × qan) :=
 [(b && nOk x, .ret (.tup [.int .i64 (q5f x), .nili]), []), (b && qij x, .ret (.tup [.int .i64 sat, qJk t]), []), (b && qdQ x, .ret (.tup [.int .i64 0, qJk t]), [])]
def pOk (s : List UInt8) : Bool := decide (s.length ≤ 281474976710656)
def qlE (t : TypeId) : Ent := fun a h => match a, h with
 | [.str s, .int .i64 10, .int .i64 64], [] => qRb t (Lib.parseIntB 64 s) (Lib.intSat 64 s) (pOk s)
 | _, _ => []
def qv4 (t : TypeId) : Ent := fun a h => match a, h with
 | [.str s], [] => qRb t (Lib.atoiAll s) (Lib.atoiSat s) (pOk s)
 | _, _ => []
theorem qCh {t : TypeId} {x : Lib.NumEnd Int} {sat : Int} {b : Bool} {p q : Bool × Res × qan} (hp : p ∈ qRb t x sat b) (hq : q ∈ qRb t x sat b) (h1 : p.1 = true) (h2 : q.1 = true) : p.2 = q.2 := by
 cases x <;> cases b <;> simp [qRb, nOk, qij, qdQ] at hp hq <;> (rcases hp with rfl | rfl | rfl <;> rcases hq with rfl | rfl | rfl <;> simp_all)
theorem qFn {t : TypeId} : ∀ a h p q, p ∈ qlE t a h → q ∈ qlE t a h → p.1 = true → q.1 = true → p.2 = q.2 := by
 intro a h p q hp hq
 unfold qlE at hp hq
 split at hp
 ·exact qCh hp hq
 ·cases hp
theorem qIT {t : TypeId} : ∀ a h p q, p ∈ qv4 t a h → q ∈ qv4 t a h → p.1 = true → q.1 = true → p.2 = q.2 := by
 intro a h p q hp hq
 unfold qv4 at hp hq
 split at hp
 ·exact qCh hp hq
 ·cases hp
theorem qyN {w w' : World} {e : TypeId} (h : w' = w ∨ ∃ t, w' = Lib.bytesWorld w e t) : RowKit.Below w.heap.size w w' := by
 rcases h with rfl | ⟨t, rfl⟩
 ·exact RowKit.Below.refl _ _
 ·exact Lib.bytesWorld_below _ _ _
theorem qO7 {w : World} {I : Imm} {m : Names} {t N : Nat} : Rel w I (qJk t) m (.iface t (.pointer (some ⟨N, 0, none⟩))) := by
 simp only [qJk, Rel]
 exact ⟨_, rfl, N, 0, rfl, by simp [qyr]⟩
theorem qCi {P : Program} {w : World} {I : Imm} {m : Names} {h : qan} (H : HeapAt w I m h) {f : Nat} {vs : Array Value} {t e : TypeId} {x : Lib.NumEnd Int} {sat : Int} {b : Bool} {r : Res} {h' : qan} (hh : h = []) (hm : (true, r, h') ∈ qRb t x sat b)
  (h1 : b = true → ∀ v, x = .ok v → Calls P f vs w fun e' w' => e' = .returned (.tuple #[.int .i64 v, .nilIface]) ∧ (w' = w ∨ ∃ t, w' = Lib.bytesWorld w e t))
  (h2 : b = true → x = .range → Calls P f vs w fun e' w' => ∃ N, e' = .returned (.tuple #[.int .i64 sat, .iface t (.pointer (some ⟨N, 0, none⟩))]) ∧ RowKit.Below w.heap.size w w')
  (h3 : b = true → qdQ x = true → Calls P f vs w fun e' w' => ∃ N, e' = .returned (.tuple #[.int .i64 0, .iface t (.pointer (some ⟨N, 0, none⟩))]) ∧ RowKit.Below w.heap.size w w') : Calls P f vs w (qQ9 w I m h r h') := by
 subst hh
 have hb : b = true := by
  cases b
  ·simp [qRb] at hm
  ·rfl
 subst hb
 rcases x with v | _ | _
 ·simp [qRb, nOk, qij, qdQ, q5f] at hm
  obtain ⟨rfl, rfl⟩ := hm
  refine (h1 rfl v rfl).mono ?_
  rintro e w' ⟨rfl, hw⟩
  exact qbM H (qyN hw) (by simp only [Rel, qaC]; exact ⟨_, rfl, _, _, rfl, rfl, _, _, rfl, rfl, rfl⟩)
 ·simp [qRb, nOk, qij, qdQ] at hm
  obtain ⟨rfl, rfl⟩ := hm
  refine (h3 rfl rfl).mono ?_
  rintro e w' ⟨N, rfl, hw⟩
  refine qbM H hw ?_
  have := qO7 (w := w') (I := I) (m := m) (t := t) (N := N)
  simp only [Rel, qaC]
  exact ⟨_, rfl, _, _, rfl, rfl, _, _, rfl, this, rfl⟩
 ·simp [qRb, nOk, qij, qdQ] at hm
  obtain ⟨rfl, rfl⟩ := hm
  refine (h2 rfl rfl).mono ?_
  rintro e w' ⟨N, rfl, hw⟩
  refine qbM H hw ?_
  have := qO7 (w := w') (I := I) (m := m) (t := t) (N := N)
  simp only [Rel, qaC]
  exact ⟨_, rfl, _, _, rfl, rfl, _, _, rfl, this, rfl⟩
theorem qlW {w : World} {I : Imm} (hg : GlobAt w I) {g : Nat} {te : TypeId} {x : AV} (h : Globs.g g = some [.iface te x]) : ∃ ev, w.cell? ⟨g, 0, none⟩ = some ev ∧ (ev = .nilIface ∨ ∃ te pe, ev = .iface te pe) := by
 obtain ⟨v, hv, hr⟩ := qoX hg h (i := 0) (c := .iface te x) rfl
 simp only [Rel] at hr
 obtain ⟨y, rfl, _⟩ := hr
 exact ⟨_, hv, .inr ⟨_, _, rfl⟩⟩
theorem qVs {x y : Lib.NumEnd Int} (hx : qdQ x = true) (hy : qdQ y = true) : x = y := by
 rcases x with _ | _ | _ <;> rcases y with _ | _ | _ <;> first | rfl | (simp [qdQ, nOk, qij] at hx; done) | (simp [qdQ, nOk, qij] at hy; done)
theorem qFo {P : Program} {ρ : Ren} (L : LaysC.n174 P ρ) (hE : qbK P (ρ.f 174)) {t1 t2 : TypeId} {x1 x2 : AV} (h1 : Globs.g (ρ.g 15) = some [.iface t1 x1]) (h2 : Globs.g (ρ.g 16) = some [.iface t2 x2]) : qeO P (ρ.f 174) (gOf (qlE (ρ.t 168))) := by
 refine qeS hE fun a h r h' hm w I m vs H hr => ?_
 unfold qlE at hm
 split at hm
 ·rename_i s
  simp only [qaC, Rel] at hr
  obtain ⟨_, _, rfl, rfl, _, _, rfl, rfl, _, _, rfl, rfl, rfl⟩ := hr
  obtain ⟨e1, c1, d1⟩ := qlW H.glob h1
  obtain ⟨e2, c2, d2⟩ := qlW H.glob h2
  refine qCi (e := ρ.t 5) H rfl hm (fun hb v hv => ?_) (fun hb hv => ?_) (fun hb hv => ?_) <;> simp only [pOk, decide_eq_true_eq] at hb
  ·exact Any.strconv_ParseInt_10_at64_ok L ⟨s.toArray⟩ (by simp [ByteArray.size]; omega) v (by simpa using hv) w
  ·refine (Any.strconv_ParseInt_10_at64_range L ⟨s.toArray⟩ (by simpa [ByteArray.size] using hb) (by simpa using hv) e2 w c2 d2).mono ?_
   rintro e w' ⟨N, rfl, _, _, hw⟩
   exact ⟨N, rfl, hw⟩
  ·refine (Any.strconv_ParseInt_10_at64_syntax L ⟨s.toArray⟩ (by simpa [ByteArray.size] using hb) (qVs (by simpa using hv) rfl) e1 w c1 d1).mono ?_
   rintro e w' ⟨N, rfl, _, _, hw⟩
   exact ⟨N, rfl, hw⟩
 ·cases hm
theorem qIU {P : Program} {ρ : Ren} (L : LaysC.n172 P ρ) (hE : qbK P (ρ.f 172)) {t1 t2 : TypeId} {x1 x2 : AV} (h1 : Globs.g (ρ.g 15) = some [.iface t1 x1]) (h2 : Globs.g (ρ.g 16) = some [.iface t2 x2]) : qeO P (ρ.f 172) (gOf (qv4 (ρ.t 168))) := by
 refine qeS hE fun a h r h' hm w I m vs H hr => ?_
 unfold qv4 at hm
 split at hm
 ·rename_i s
  simp only [qaC, Rel] at hr
  obtain ⟨_, _, rfl, rfl, rfl⟩ := hr
  obtain ⟨e1, c1, d1⟩ := qlW H.glob h1
  obtain ⟨e2, c2, d2⟩ := qlW H.glob h2
  refine qCi (e := ρ.t 5) H rfl hm (fun hb v hv => ?_) (fun hb hv => ?_) (fun hb hv => ?_) <;> simp only [pOk, decide_eq_true_eq] at hb
  ·exact Any.strconv_Atoi_ok L ⟨s.toArray⟩ (by simp [ByteArray.size]; omega) v (by simpa using hv) w
  ·refine (Any.strconv_Atoi_range L ⟨s.toArray⟩ (by simpa [ByteArray.size] using hb) (by simpa using hv) e2 w c2 d2).mono ?_
   rintro e w' ⟨N, rfl, _, _, hw⟩
   exact ⟨N, rfl, hw⟩
  ·refine (Any.strconv_Atoi_syntax L ⟨s.toArray⟩ (by simpa [ByteArray.size] using hb) (qVs (by simpa using hv) rfl) e1 w c1 d1).mono ?_
   rintro e w' ⟨N, rfl, _, _, hw⟩
   exact ⟨N, rfl, hw⟩
 ·cases hm
theorem qRQ {P : Program} {w : World} {I : Imm} (hg : GlobAt w I) {g : Nat} {k : IntKind} {zs : List Int} {name : String} (hn : P.globalNamed name = some g) (h : Globs.g g = some (zs.map (.int k))) : Lib.TabIs P w name k zs := by
 obtain ⟨_, C, e, hC, hs⟩ := hg g _ h
 unfold Lib.TabIs World.var?
 simp only [hn, Option.bind_some, hC, Option.some.injEq]
 apply Array.ext
 ·simpa using hs
 ·intro i h1 h2
  have hi : i < zs.length := by simpa using h2
  obtain ⟨v, hv, hr⟩ := qoX hg h (i := i) (c := .int k zs[i]) (by simp [hi])
  simp only [Rel] at hr
  subst hr
  rw [qec hC, Array.getElem?_eq_getElem h1, Option.some.injEq] at hv
  simpa using hv
theorem qq4 (w : World) (q : Nat) (os : Array Obj) : RowKit.Below w.heap.size w (Sort.grow (w.drewN q) os) :=
 ⟨rfl, rfl, rfl, by simp [Sort.grow, World.drewN], fun i hi => by
  show ((w.drewN q).heap ++ os)[i]? = _
  rw [Array.getElem?_append_left (by show i < w.heap.size; omega)]
  rfl⟩
def qo5 : Ent := fun a h => match a, h with
 | [.int .i64 n], [] => [(decide (-9223372036854775808 ≤ n) && decide (n ≤ 9223372036854775807), .ret (.str (Lib.itoa n)), [])]
 | _, _ => []
theorem qEW : ∀ a h, (qo5 a h).length ≤ 1 := by intro a h; unfold qo5; split <;> simp
theorem qEX {P : Program} {ρ : Ren} (L : LaysM.n171 P ρ) (hE : qbK P (ρ.f 171)) {g : Nat} (hgg : P.globalNamed "internal/strconv.uint64pow10" = some g) (h1 : Globs.g g = some (Lib.pow10Tab.map (.int .u64))) : qeO P (ρ.f 171) (gOf qo5) := by
 refine qeS hE fun a h r h' hm w I m vs H hr => ?_
 unfold qo5 at hm
 split at hm
 ·rename_i n
  simp only [List.mem_singleton, Prod.mk.injEq, eq_comm (a := true), Bool.and_eq_true, decide_eq_true_eq] at hm
  obtain ⟨⟨g0, g1⟩, rfl, rfl⟩ := hm
  simp only [qaC, Rel] at hr
  obtain ⟨_, _, rfl, rfl, rfl⟩ := hr
  refine (Any.strconv_Itoa L n g0 g1 w (qRQ H.glob hgg h1)).mono ?_
  rintro e w' ⟨rfl, k, os, rfl⟩
  refine qbM H ?_ (by simp [Rel])
  exact qq4 _ _ _
 ·cases hm
end Go.Eng
namespace Go.Eng
open Go.Shelf
set_option linter.unusedSectionVars false
theorem qBC {P : Program} {W : World} {n : String} {d : DataW Unit} {r : List (String × DataW Unit)} (h : laidMet P ((n, d) :: r) W) {g : Nat} (hg : P.globalNamed n = some g) {cs : Array Value} (hv : W.var? P n = some cs) (hne : 0 < cs.size) : ∃ e, W.heap[g]? = some (.cells cs e (0, 0)) := by
 obtain ⟨ps, ⟨g0, t0, cs0, f0, p0, q0, hg0, ht0, hv0, hd0, _, e0⟩, _, hrows⟩ := h
 obtain rfl := Option.some.inj (hg.symm.trans hg0)
 obtain rfl := Option.some.inj (hv.symm.trans hv0)
 subst e0
 obtain ⟨c, t, hc⟩ := (hrows g 0 (by
  simp only [MemPlace.row, List.mem_append]
  exact .inl (.inl (by simp; omega)))).1
 unfold World.var? at hv
 rw [hg, Option.bind_some, hc] at hv
 cases hv
 exact ⟨t, hc⟩
def qvT (W : World) (I : Imm) (g : Nat) (cs : List AV) : Prop := ∃ (C : Array Value) (e : TypeId), W.heap[g]? = some (Obj.cells C e (0, 0)) ∧ C.size = cs.length ∧ ∀ (i : Nat) (c : AV), cs[i]? = some c → qa0 c = true ∧ ∃ v, C[i]? = some v ∧ Rel W I c m0 v
theorem qoZ {P : Program} {W : World} {I : Imm} {n : String} {k : IntKind} {zs : List Int} {r : List (String × DataW Unit)} (h : laidMet P ((n, Lib.tabData k zs) :: r) W) {g : Nat} {t e : TypeId} {m : Nat}
  (hg : P.globalNamed n = some g) (hty : (P.globals[g]?).map (·.type) = some t) (ht : P.underlying t = some (.array m e)) (he : P.underlying e = some (.int k)) (hce : P.cellsOf e = 1) (hct : P.cellsOf t = m) (hz : 0 < zs.length) : qvT W I g (zs.map (.int k)) := by
 have hv := Lib.tabIs_of_head hg hty ht he hce hct h
 unfold Lib.TabIs at hv
 obtain ⟨e', hC⟩ := qBC h hg hv (by simpa using hz)
 refine ⟨_, e', hC, by simp, fun i c hc => ?_⟩
 rw [List.getElem?_map, Option.map_eq_some_iff] at hc
 obtain ⟨z, hz, rfl⟩ := hc
 exact ⟨rfl, .int k z, by simp [hz], by simp [Rel]⟩
theorem qoY {P : Program} {W : World} {I : Imm} {n nm : String} {text : List UInt8} {r : List (String × DataW Unit)} {g : Nat} {ti tp te ts : TypeId} {ms : Array (String × TypeId)} {f : Field}
  (h : laidMet P ((n, .iface nm (.ptr (.agg [.lit (.string text)]))) :: r) W)
  (hg : P.globalNamed n = some g) (ht : (P.globals[g]?).map (·.type) = some ti) (hi : P.underlying ti = some (.interface ms)) (hrow : ∀ u, P.typeName? 3 u = some nm → u = tp)
  (hp : P.underlying tp = some (.pointer te)) (he : P.underlying te = some (.struct #[f])) (hft : f.type = ts) (hfo : f.offset = 0) (hs : P.underlying ts = some .string) (hc : P.cellsOf te = 1) (hcs : P.cellsOf ts = 1) : qvT W I g [qJk tp] := by
 obtain ⟨a, s, hv, hcell, _, _⟩ := laid_sentinel h hg ht hi hrow hp he hft hfo hs hc hcs
 obtain ⟨e', hC⟩ := qBC h hg hv (by simp)
 refine ⟨_, e', hC, by simp, fun i c hi => ?_⟩
 have hi0 : i = 0 ∧ c = qJk tp := by
  cases i with
  | zero => simp at hi; exact ⟨rfl, hi.symm⟩
  | succ i => simp at hi
 obtain ⟨rfl, rfl⟩ := hi0
 refine ⟨rfl, _, rfl, ?_⟩
 obtain ⟨b, o, sp⟩ := a
 have hsp : sp = none := by
  cases sp with
  | none => rfl
  | some x =>
   simp only [World.cell?, Option.isSome_some, if_true] at hcell
   split at hcell <;> cases hcell
 subst hsp
 simp only [qJk, Rel]
 exact ⟨_, rfl, b, o, rfl, by simp [qyr]⟩
theorem q0p [Globs] {W : World} {I0 : Imm} (h : ∀ g cs, Globs.g g = some cs → qvT W (fun b o => I0 b o ∨ ∃ cs, Globs.g b = some cs ∧ o < cs.length) g cs) : GlobAt W (fun b o => I0 b o ∨ ∃ cs, Globs.g b = some cs ∧ o < cs.length) := by
 intro g cs hg
 obtain ⟨C, e, hC, hsz, hall⟩ := h g cs hg
 refine ⟨qbT.2 fun i c hc => ?_, C, e, hC, hsz⟩
 obtain ⟨h1, v, hv, hr⟩ := hall i c hc
 refine ⟨.inr ⟨cs, hg, by rw [Nat.zero_add]; exact (List.getElem?_eq_some_iff.1 hc).1⟩, h1, v, ?_, hr⟩
 rw [Nat.zero_add]
 exact (qec hC).trans hv
theorem q0q [Globs] {W : World} {I0 I : Imm} (h : ∀ g cs, Globs.g g = some cs → qvT W I g cs) (h0 : ∀ b o, I0 b o → b < W.heap.size) : ∀ b o, (I0 b o ∨ ∃ cs, Globs.g b = some cs ∧ o < cs.length) → b < W.heap.size := by
 rintro b o (hb | ⟨cs, hg, _⟩)
 ·exact h0 b o hb
 ·obtain ⟨C, e, hC, _⟩ := h b cs hg
  exact (Array.getElem?_eq_some_iff.1 hC).1
end Go.Eng
namespace Go.Eng
open Go.Proofs
set_option linter.unusedSectionVars false
variable [Globs]
def qfH (x : Int) : Bool := decide (0 ≤ x) && decide (x < 18446744073709551616)
def qnI : Ent := fun a h => match a, h with
 | [.int .u64 x, .int .u64 y, .int .u64 c], [] => [(qfH x && qfH y && (decide (0 ≤ c) && decide (c ≤ 1)), .ret (.tup [.int .u64 ((x + y + c) % 18446744073709551616), .int .u64 ((x + y + c) / 18446744073709551616)]), [])]
 | _, _ => []
theorem qCR : ∀ a h, (qnI a h).length ≤ 1 := by intro a h; unfold qnI; split <;> simp
def qqL : Ent := fun a h => match a, h with
 | [.int .u64 x, .int .u64 y, .int .u64 c], [] => [(qfH x && qfH y && (decide (0 ≤ c) && decide (c ≤ 1)), .ret (.tup [.int .u64 ((x - y - c) % 18446744073709551616), .int .u64 (if x < y + c then 1 else 0)]), [])]
 | _, _ => []
theorem qFv : ∀ a h, (qqL a h).length ≤ 1 := by intro a h; unfold qqL; split <;> simp
structure ExtIs (P : Program) (f : Nat) (e : Array Value → Sem Value) : Prop where
 is : ∃ fn, P.funcs[f]? = some fn ∧ (fn.name == "runtime.NumGoroutine") = false ∧ fn.body.isNone = true ∧ Extern.findNext fn = none ∧ Extern.find fn = some e
theorem ExtIs.run {P : Program} {f : Nat} {e : Array Value → Sem Value} (h : ExtIs P f e) (args : Array Value) (w : World) : (callFunc f args).run P w = ((e args).run P w).andThen fun v w' => .ok (.value v) w' := by
 obtain ⟨fn, h1, h2, h3, h4, h5⟩ := h.is
 exact run_callFunc_extern h1 h2 h3 h4 h5 args w
theorem qCS {P : Program} {f : Nat} (hE : ExtIs P f add64Entry) : qeO P f (gOf qnI) := by
 intro a h r h' hg w I m vs H hnm hr
 unfold gOf at hg
 rw [Option.map_eq_some_iff] at hg
 obtain ⟨⟨b, q⟩, hq, rfl⟩ := hg
 have hb := List.find?_some hq
 have hm := List.mem_of_find?_eq_some hq
 simp only at hb
 subst hb
 unfold qnI at hm
 split at hm
 ·rename_i x y c
  simp only [List.mem_singleton, Prod.mk.injEq, eq_comm (a := true), Bool.and_eq_true, decide_eq_true_eq, qfH] at hm
  obtain ⟨⟨⟨⟨x0, x1⟩, y0, y1⟩, c0, c1⟩, rfl, rfl⟩ := hm
  simp only [qaC, Rel] at hr
  obtain ⟨_, _, rfl, rfl, _, _, rfl, rfl, _, _, rfl, rfl, rfl⟩ := hr
  refine .inr ⟨.tuple #[.int .u64 ((x + y + c) % 18446744073709551616), .int .u64 ((x + y + c) / 18446744073709551616)], ?_, ?_⟩
  ·rw [hE.run, run_add64 x y c x0 y0 c0 c1]
   rfl
  ·refine qbM H (RowKit.Below.refl _ _) ?_
   simp only [Rel, qaC]
   exact ⟨_, rfl, _, _, rfl, rfl, _, _, rfl, rfl, rfl⟩
 ·cases hm
theorem qFw {P : Program} {f : Nat} (hE : ExtIs P f sub64Entry) : qeO P f (gOf qqL) := by
 intro a h r h' hg w I m vs H hnm hr
 unfold gOf at hg
 rw [Option.map_eq_some_iff] at hg
 obtain ⟨⟨b, q⟩, hq, rfl⟩ := hg
 have hb := List.find?_some hq
 have hm := List.mem_of_find?_eq_some hq
 simp only at hb
 subst hb
 unfold qqL at hm
 split at hm
 ·rename_i x y c
  simp only [List.mem_singleton, Prod.mk.injEq, eq_comm (a := true), Bool.and_eq_true, decide_eq_true_eq, qfH] at hm
  obtain ⟨⟨⟨⟨x0, x1⟩, y0, y1⟩, c0, c1⟩, rfl, rfl⟩ := hm
  simp only [qaC, Rel] at hr
  obtain ⟨_, _, rfl, rfl, _, _, rfl, rfl, _, _, rfl, rfl, rfl⟩ := hr
  obtain ⟨x, rfl⟩ : ∃ n : Nat, x = (n : Int) := ⟨x.toNat, by omega⟩
  obtain ⟨y, rfl⟩ : ∃ n : Nat, y = (n : Int) := ⟨y.toNat, by omega⟩
  obtain ⟨c, rfl⟩ : ∃ n : Nat, c = (n : Int) := ⟨c.toNat, by omega⟩
  refine .inr ⟨.tuple #[.int .u64 (((x : Int) - y - c) % 18446744073709551616), .int .u64 (if (x : Int) < y + c then 1 else 0)], ?_, ?_⟩
  ·rw [hE.run, run_sub64 x y c (by omega)]
   have e1 : (((x + 18446744073709551616 - y - c) % 18446744073709551616 : Nat) : Int) = ((x : Int) - y - c) % 18446744073709551616 := by omega
   have e2 : ((if x < y + c then 1 else 0 : Nat) : Int) = (if (x : Int) < y + c then 1 else 0) := by
    by_cases h : x < y + c
    ·rw [if_pos h, if_pos (by omega)]; rfl
    ·rw [if_neg h, if_neg (by omega)]; rfl
   rw [e1, e2]
   rfl
  ·refine qbM H (RowKit.Below.refl _ _) ?_
   simp only [Rel, qaC]
   exact ⟨_, rfl, _, _, rfl, rfl, _, _, rfl, rfl, rfl⟩
 ·cases hm
end Go.Eng
namespace Go.Eng
open Go.Shelf Go.Proofs
set_option linter.unusedSectionVars false
variable [Globs]
def qpq : Ent := fun a h => match a, h with
 | [.int .u64 x, .int .u64 y], [] => [(qfH x && qfH y, .ret (.tup [.int .u64 (x * y / 18446744073709551616), .int .u64 (x * y % 18446744073709551616)]), [])]
 | _, _ => []
theorem qFi : ∀ a h, (qpq a h).length ≤ 1 := by intro a h; unfold qpq; split <;> simp
def qz7 : Ent := fun a h => match a, h with
 | [.int .u64 x], [] => [(qfH x, .ret (.int .i64 (64 - (Lib.bitLen x.toNat : Int))), [])]
 | _, _ => []
theorem qLw : ∀ a h, (qz7 a h).length ≤ 1 := by intro a h; unfold qz7; split <;> simp
theorem qFj {P : Program} {ρ : Ren} (L : Lays.n264 P ρ) (hE : qbK P (ρ.f 264)) : qeO P (ρ.f 264) (gOf qpq) := by
 refine qeS hE fun a h r h' hm w I m vs H hr => ?_
 unfold qpq at hm
 split at hm
 ·rename_i x y
  simp only [List.mem_singleton, Prod.mk.injEq, eq_comm (a := true), Bool.and_eq_true, decide_eq_true_eq, qfH] at hm
  obtain ⟨⟨⟨x0, x1⟩, y0, y1⟩, rfl, rfl⟩ := hm
  simp only [qaC, Rel] at hr
  obtain ⟨_, _, rfl, rfl, _, _, rfl, rfl, rfl⟩ := hr
  obtain ⟨x, rfl⟩ : ∃ n : Nat, x = (n : Int) := ⟨x.toNat, by omega⟩
  obtain ⟨y, rfl⟩ : ∃ n : Nat, y = (n : Int) := ⟨y.toNat, by omega⟩
  refine (Any.bits_Mul64 L x y (by omega) (by omega) w).mono ?_
  rintro e w' ⟨rfl, rfl⟩
  refine qbM H (RowKit.Below.refl _ _) ?_
  simp only [Rel, qaC]
  exact ⟨_, rfl, _, _, rfl, by simp, _, _, rfl, by simp, rfl⟩
 ·cases hm
theorem qLx {P : Program} {ρ : Ren} (L : Lays.n134 P ρ) (hE : qbK P (ρ.f 134)) : qeO P (ρ.f 134) (gOf qz7) := by
 refine qeS hE fun a h r h' hm w I m vs H hr => ?_
 unfold qz7 at hm
 split at hm
 ·rename_i x
  simp only [List.mem_singleton, Prod.mk.injEq, eq_comm (a := true), Bool.and_eq_true, decide_eq_true_eq, qfH] at hm
  obtain ⟨⟨x0, x1⟩, rfl, rfl⟩ := hm
  simp only [qaC, Rel] at hr
  obtain ⟨_, _, rfl, rfl, rfl⟩ := hr
  refine (Any.bits_LeadingZeros64 L x w x0 (by omega)).mono ?_
  rintro e w' ⟨rfl, rfl⟩
  exact qbM H (RowKit.Below.refl _ _) (by simp [Rel])
 ·cases hm
end Go.Eng
