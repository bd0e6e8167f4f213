/- A machine of plain values, and that what it says holds of the program. -/
import Derived.Test.YthljpgljbpdmjaaGreatDoorE3
import Derived.Below
import Derived.Shelf.Strings.Fields
import Derived.Shelf.Strings.Count
import Derived.Shelf.Strings.Search1
import Derived.Shelf.Strconv.ParseIntPublic10
import Derived.Shelf.Strconv.AtoiAll
import Derived.Shelf.Strconv.Itoa4
import Derived.Test.YthljpgljbpdmjaaGreatDoorE2
import Derived.Stop.LaidErr
import Derived.Lib.LaidTab
set_option linter.unusedVariables false
set_option linter.unusedSimpArgs false
set_option linter.unnecessarySimpa false
namespace Go.Eng
set_option linter.unusedSectionVars false
variable [Globs]
theorem qgC {w w' : World} {I : Imm} (ho : ∀ b o, I b o → b < w.heap.size) (hb : RowKit.Below w.heap.size w w') : Stays w w' I where
 size := hb.size
 row := fun b C e h => ⟨C, by rw [hb.block b (Array.getElem?_eq_some_iff.1 h).1]; exact h, rfl⟩
 imm := fun b o hi => by simp only [World.cell?, ad]; rw [hb.block b (ho b o hi)]
 out := ⟨hb.os, hb.output, hb.tape⟩
theorem qqy {w w' : World} {I I' : Imm} {m : Names} {h : qag} (H : HeapAt w I m h) (hb : RowKit.Below w.heap.size w w') (hI : ∀ b o, I b o → I' b o) (hN : ∀ b o, I' b o → I b o ∨ w.heap.size ≤ b ∧ b < w'.heap.size) : Aft w w' I I' m m h h where
 stays := qgC H.old hb
 imm := hI
 names := fun _ _ h => h
 heap := {
  at_ := fun i b hi => by
   obtain ⟨L, hL, hat⟩ := H.at_ i b hi
   refine ⟨L, hL, hat.keep (qgC H.old hb) hI (fun _ _ h => h) (hb.block _ hat.lt) fun o ho => ?_⟩
   rcases hN _ _ ho with h | h
   ·exact h
   ·have := hat.lt; omega
  apart := H.apart
  old := fun b o hi => by
   rcases hN b o hi with h | h
   ·exact Nat.lt_of_lt_of_le (H.old b o h) hb.size
   ·exact h.2
  glob := H.glob.mono (qgC H.old hb) hI }
 frame := fun b hlt _ => hb.block b hlt
 newI := fun b o hi => (hN b o hi).imp id fun h => .inr h.1
 owns := fun _ h => .inl h
theorem qdP {w w' : World} {I : Imm} {m : Names} {h : qag} (H : HeapAt w I m h) (hb : RowKit.Below w.heap.size w w') {v : AV} {u : Value} (hu : Rel w' I v m u) : qFr w I m h (.ret v) h (.returned u) w' :=
 ⟨I, m, qqy H hb (fun _ _ h => h) fun _ _ h => .inl h, u, rfl, hu⟩
theorem quR : ∀ l : List (List UInt8), flat (l.map .str) = l.map .str
 | [] => rfl
 | s :: l => by
  have := quR l
  simp only [flat, List.map_cons, List.flatMap_cons, qab] at this ⊢
  rw [this]; rfl
theorem qDE {w : World} {I : Imm} {m : Names} {h : qag} (H : HeapAt w I m h) (l : List (List UInt8)) (e : TypeId) :
  qFr w I m h (.ret (.view 1 (l.map .str))) h (.returned (.slice (some ⟨w.heap.size, 0, none⟩) l.length l.length)) (w.alloc (.cells (l.map fun s => Value.string ⟨s.toArray⟩).toArray e)) := by
 refine ⟨fun b o => I b o ∨ b = w.heap.size, m, qqy H ((RowKit.Below.refl _ w).alloc (Nat.le_refl _) _) (fun _ _ => .inl) (fun b o hi => hi.imp id fun h => by simp; omega), _, rfl, ?_⟩
 simp only [Rel]
 refine ⟨some (ad w.heap.size 0), l.length, by simp [ad], by simp, .inr ⟨w.heap.size, 0, rfl, ?_⟩, by simp⟩
 rw [qfo]
 refine ⟨fun x hx => ?_, fun i c hc => ⟨.inr rfl, ?_⟩⟩
 ·obtain ⟨s, _, rfl⟩ := List.mem_map.1 hx
  rfl
 ·rw [quR, List.getElem?_map, Option.map_eq_some_iff] at hc
  obtain ⟨s, hs, rfl⟩ := hc
  refine ⟨rfl, .string ⟨s.toArray⟩, ?_, by simp [Rel]⟩
  rw [qdg (heap_alloc_new w _)]
  simp [hs]
def gOf (E : Ent) : List AV → qag → Option (Res × qag) := fun a h => ((E a h).find? fun p => p.1).map fun p => p.2
theorem qq7 {IP : Prog} {f : Nat} {E : Ent} (hF : IP.fn f = none) (hS : IP.spec f = some (gOf E)) (h1 : ∀ a h p q, p ∈ E a h → q ∈ E a h → p.1 = true → q.1 = true → p.2 = q.2) : Snd IP f E := by
 intro a h r h' hm
 refine qng hF hS ?_
 unfold gOf
 cases hq : (E a h).find? fun p => p.1 with
 | none => exact absurd rfl (List.find?_eq_none.1 hq _ hm)
 | some q =>
  have hp := List.find?_some hq
  rw [Option.map_some, h1 a h q _ (List.mem_of_find?_eq_some hq) hm hp rfl]
theorem qg0 {P : Program} {f : Nat} {E : Ent} (hE : qbN P f) (h1 : ∀ a h r h', (true, r, h') ∈ E a h → ∀ (w : World) (I : Imm) (m : Names) (vs : List Value), HeapAt w I m h → qaz w I a m vs → Calls P f vs.toArray w (qFr w I m h r h')) : qgI P f (gOf E) := by
 intro a h r h' hg
 unfold gOf at hg
 rw [Option.map_eq_some_iff] at hg
 obtain ⟨⟨b, q⟩, hq, rfl⟩ := hg
 have hb := List.find?_some hq
 have hm := List.mem_of_find?_eq_some hq
 simp only at hb
 subst hb
 exact fun w I m vs H _ hr => .inl ⟨hE, h1 a h r h' hm w I m vs H hr⟩
end Go.Eng
namespace Go.Eng
open Go.Shelf Go.Proofs
set_option linter.unusedSectionVars false
variable [Globs]
theorem qq8 {w : World} {I : Imm} (hg : GlobAt w I) {g : Nat} {cs : List AV} (h : Globs.g g = some cs) {i : Nat} {c : AV} (hc : cs[i]? = some c) : ∃ v, w.cell? (ad g i) = some v ∧ Rel w I c m0 v := by
 obtain ⟨_, _, v, hv, hr⟩ := qbh.1 (hg g cs h).1 i c hc
 rw [Nat.zero_add] at hv
 exact ⟨v, hv, hr⟩
def qoJ : List AV := Lib.asciiSpaceTab.map (.int .u8)
def qgo : Ent := fun a h => match a, h with
 | [.str s], [] => [(s.all (fun b => decide (b.toNat < 128)) && decide (s.length < 4294967281), .ret (.view 1 ((Lib.fields s).map .str)), [])]
 | _, _ => []
theorem qtT {P : Program} {ρ : Ren} (L : Lays.n157 P ρ) (hi9 : (P.info? (ρ.t 9)).map (fun i => (i.zero, i.size, i.bytes)) = some (some (.string ByteArray.empty), 1, 16)) (hE : qbN P (ρ.f 157))
  (hg : Globs.g (ρ.g 0) = some qoJ) : qgI P (ρ.f 157) (gOf qgo) := by
 refine qg0 hE fun a h r h' hm w I m vs H hr => ?_
 unfold qgo at hm
 split at hm
 ·rename_i s
  simp only [List.mem_singleton, Prod.mk.injEq, eq_comm (a := true), Bool.and_eq_true, List.all_eq_true, decide_eq_true_eq] at hm
  obtain ⟨⟨hs, hl⟩, rfl, rfl⟩ := hm
  simp only [qaz, Rel] at hr
  obtain ⟨_, _, rfl, rfl, rfl⟩ := hr
  refine (Any.strings_Fields_core L hi9 ⟨s.toArray⟩ w (by simpa [ByteArray.size] using hl) (fun j b hb => hs b (List.mem_of_getElem? (by simpa using hb))) fun c hc => ?_).mono ?_
  ·obtain ⟨v, hv, hr⟩ := qq8 H.glob hg (i := c) (c := .int .u8 (if Lib.isSp (UInt8.ofNat c) then 1 else 0)) (by
    unfold qoJ
    rw [List.getElem?_map, List.getElem?_eq_getElem (by rw [Lib.asciiSpaceTab_length]; exact hc), Option.map_some, ← Lib.asciiSpaceTab_at c hc]
    simp [Lib.asciiSpaceTab_length, hc])
   simp only [Rel] at hr
   subst hr
   exact hv
  ·rintro e w' ⟨rfl, rfl⟩
   exact qDE H _ _
 ·cases hm
def qjT : Ent := fun a h => match a, h with
 | [.str s, .str [c]], [] => [(true, .ret (.int .i64 (Lib.countByte s c)), [])]
 | _, _ => []
theorem qwl {P : Program} {ρ : Ren} (L : Lays.n138 P ρ) (hE : qbN P (ρ.f 138)) : qgI P (ρ.f 138) (gOf qjT) := by
 refine qg0 hE fun a h r h' hm w I m vs H hr => ?_
 unfold qjT at hm
 split at hm
 ·rename_i s c
  simp only [List.mem_singleton, Prod.mk.injEq, true_and] at hm
  obtain ⟨rfl, rfl⟩ := hm
  simp only [qaz, Rel] at hr
  obtain ⟨_, _, rfl, rfl, _, _, rfl, rfl, rfl⟩ := hr
  refine (Any.strings_Count_one L ⟨s.toArray⟩ c w).mono ?_
  rintro e w' ⟨rfl, rfl⟩
  exact qdP H (RowKit.Below.refl _ _) (by simp [Rel])
 ·cases hm
def qMV : Ent := fun a h => match a, h with
 | [.str s, .int .u8 c], [] => [(true, .ret (.int .i64 (Lib.indexByte s c.toNat.toUInt8)), [])]
 | _, _ => []
theorem qGe {P : Program} {ρ : Ren} (L : Lays.n217 P ρ) (hE : qbN P (ρ.f 217)) : qgI P (ρ.f 217) (gOf qMV) := by
 refine qg0 hE fun a h r h' hm w I m vs H hr => ?_
 unfold qMV at hm
 split at hm
 ·rename_i s c
  simp only [List.mem_singleton, Prod.mk.injEq, true_and] at hm
  obtain ⟨rfl, rfl⟩ := hm
  simp only [qaz, Rel] at hr
  obtain ⟨_, _, rfl, rfl, _, _, rfl, rfl, rfl⟩ := hr
  refine (Any.stringslite_IndexByte L ⟨s.toArray⟩ c w).mono ?_
  rintro e w' ⟨rfl, rfl⟩
  exact qdP H (RowKit.Below.refl _ _) (by simp [Rel])
 ·cases hm
theorem quf {E : Ent} (h : ∀ a h, (E a h).length ≤ 1) : ∀ a h p q, p ∈ E a h → q ∈ E a h → p.1 = true → q.1 = true → p.2 = q.2 := by
 intro a b p q hp hq _ _
 have := h a b
 match E a b, this, hp, hq with
 | [x], _, hp, hq => rw [List.mem_singleton.1 hp, List.mem_singleton.1 hq]
theorem qtS : ∀ a h, (qgo a h).length ≤ 1 := by intro a h; unfold qgo; split <;> simp
theorem qwk : ∀ a h, (qjT a h).length ≤ 1 := by intro a h; unfold qjT; split <;> simp
theorem qGd : ∀ a h, (qMV a h).length ≤ 1 := by intro a h; unfold qMV; split <;> simp
end Go.Eng
namespace Go.Eng
open Go.Shelf Go.Proofs
set_option linter.unusedSectionVars false
variable [Globs]
def nOk : Lib.NumEnd Int → Bool
 | .ok _ => true
 | _ => false
def qP7 : Lib.NumEnd Int → Int
 | .ok v => v
 | _ => 0
def qfU : Lib.NumEnd Int → Bool
 | .range => true
 | _ => false
def qcA (x : Lib.NumEnd Int) : Bool := !nOk x && !qfU x
def qAg (t : TypeId) : AV := .iface t (.ptr [])
def qFv (t : TypeId) (x : Lib.NumEnd Int) (sat : Int) (b : Bool) : List (Bool × Res × qag) :=
 [(b && nOk x, .ret (.tup [.int .i64 (qP7 x), .nili]), []), (b && qfU x, .ret (.tup [.int .i64 sat, qAg t]), []), (b && qcA x, .ret (.tup [.int .i64 0, qAg t]), [])]
def pOk (s : List UInt8) : Bool := decide (s.length ≤ 281474976710656)
def qiv (t : TypeId) : Ent := fun a h => match a, h with
 | [.str s, .int .i64 10, .int .i64 64], [] => qFv t (Lib.parseIntB 64 s) (Lib.intSat 64 s) (pOk s)
 | _, _ => []
def qqE (t : TypeId) : Ent := fun a h => match a, h with
 | [.str s], [] => qFv t (Lib.atoiAll s) (Lib.atoiSat s) (pOk s)
 | _, _ => []
theorem qvJ {t : TypeId} {x : Lib.NumEnd Int} {sat : Int} {b : Bool} {p q : Bool × Res × qag} (hp : p ∈ qFv t x sat b) (hq : q ∈ qFv t x sat b) (h1 : p.1 = true) (h2 : q.1 = true) : p.2 = q.2 := by
 cases x <;> cases b <;> simp [qFv, nOk, qfU, qcA] at hp hq <;> (rcases hp with rfl | rfl | rfl <;> rcases hq with rfl | rfl | rfl <;> simp_all)
theorem qx9 {t : TypeId} : ∀ a h p q, p ∈ qiv t a h → q ∈ qiv t a h → p.1 = true → q.1 = true → p.2 = q.2 := by
 intro a h p q hp hq
 unfold qiv at hp hq
 split at hp
 ·exact qvJ hp hq
 ·cases hp
theorem qzR {t : TypeId} : ∀ a h p q, p ∈ qqE t a h → q ∈ qqE t a h → p.1 = true → q.1 = true → p.2 = q.2 := by
 intro a h p q hp hq
 unfold qqE at hp hq
 split at hp
 ·exact qvJ hp hq
 ·cases hp
theorem qs6 {w w' : World} {e : TypeId} (h : w' = w ∨ ∃ t, w' = Lib.bytesWorld w e t) : RowKit.Below w.heap.size w w' := by
 rcases h with rfl | ⟨t, rfl⟩
 ·exact RowKit.Below.refl _ _
 ·exact Lib.bytesWorld_below _ _ _
theorem qEp {w : World} {I : Imm} {m : Names} {t N : Nat} : Rel w I (qAg t) m (.iface t (.pointer (some ⟨N, 0, none⟩))) := by
 simp only [qAg, Rel]
 exact ⟨_, rfl, N, 0, rfl, by simp [qs1]⟩
theorem qvK {P : Program} {w : World} {I : Imm} {m : Names} {h : qag} (H : HeapAt w I m h) {f : Nat} {vs : Array Value} {t e : TypeId} {x : Lib.NumEnd Int} {sat : Int} {b : Bool} {r : Res} {h' : qag} (hh : h = []) (hm : (true, r, h') ∈ qFv t x sat b)
  (h1 : b = true → ∀ v, x = .ok v → Calls P f vs w fun e' w' => e' = .returned (.tuple #[.int .i64 v, .nilIface]) ∧ (w' = w ∨ ∃ t, w' = Lib.bytesWorld w e t))
  (h2 : b = true → x = .range → Calls P f vs w fun e' w' => ∃ N, e' = .returned (.tuple #[.int .i64 sat, .iface t (.pointer (some ⟨N, 0, none⟩))]) ∧ RowKit.Below w.heap.size w w')
  (h3 : b = true → qcA x = true → Calls P f vs w fun e' w' => ∃ N, e' = .returned (.tuple #[.int .i64 0, .iface t (.pointer (some ⟨N, 0, none⟩))]) ∧ RowKit.Below w.heap.size w w') : Calls P f vs w (qFr w I m h r h') := by
 subst hh
 have hb : b = true := by
  cases b
  ·simp [qFv] at hm
  ·rfl
 subst hb
 rcases x with v | _ | _
 ·simp [qFv, nOk, qfU, qcA, qP7] at hm
  obtain ⟨rfl, rfl⟩ := hm
  refine (h1 rfl v rfl).mono ?_
  rintro e w' ⟨rfl, hw⟩
  exact qdP H (qs6 hw) (by simp only [Rel, qaz]; exact ⟨_, rfl, _, _, rfl, rfl, _, _, rfl, rfl, rfl⟩)
 ·simp [qFv, nOk, qfU, qcA] at hm
  obtain ⟨rfl, rfl⟩ := hm
  refine (h3 rfl rfl).mono ?_
  rintro e w' ⟨N, rfl, hw⟩
  refine qdP H hw ?_
  have := qEp (w := w') (I := I) (m := m) (t := t) (N := N)
  simp only [Rel, qaz]
  exact ⟨_, rfl, _, _, rfl, rfl, _, _, rfl, this, rfl⟩
 ·simp [qFv, nOk, qfU, qcA] at hm
  obtain ⟨rfl, rfl⟩ := hm
  refine (h2 rfl rfl).mono ?_
  rintro e w' ⟨N, rfl, hw⟩
  refine qdP H hw ?_
  have := qEp (w := w') (I := I) (m := m) (t := t) (N := N)
  simp only [Rel, qaz]
  exact ⟨_, rfl, _, _, rfl, rfl, _, _, rfl, this, rfl⟩
theorem qiK {w : World} {I : Imm} (hg : GlobAt w I) {g : Nat} {te : TypeId} {x : AV} (h : Globs.g g = some [.iface te x]) : ∃ ev, w.cell? ⟨g, 0, none⟩ = some ev ∧ (ev = .nilIface ∨ ∃ te pe, ev = .iface te pe) := by
 obtain ⟨v, hv, hr⟩ := qq8 hg h (i := 0) (c := .iface te x) rfl
 simp only [Rel] at hr
 obtain ⟨y, rfl, _⟩ := hr
 exact ⟨_, hv, .inr ⟨_, _, rfl⟩⟩
theorem qJr {x y : Lib.NumEnd Int} (hx : qcA x = true) (hy : qcA y = true) : x = y := by
 rcases x with _ | _ | _ <;> rcases y with _ | _ | _ <;> first | rfl | (simp [qcA, nOk, qfU] at hx; done) | (simp [qcA, nOk, qfU] at hy; done)
theorem qya {P : Program} {ρ : Ren} (L : LaysC.n174 P ρ) (hE : qbN P (ρ.f 174)) {t1 t2 : TypeId} {x1 x2 : AV} (h1 : Globs.g (ρ.g 15) = some [.iface t1 x1]) (h2 : Globs.g (ρ.g 16) = some [.iface t2 x2]) : qgI P (ρ.f 174) (gOf (qiv (ρ.t 168))) := by
 refine qg0 hE fun a h r h' hm w I m vs H hr => ?_
 unfold qiv at hm
 split at hm
 ·rename_i s
  simp only [qaz, Rel] at hr
  obtain ⟨_, _, rfl, rfl, _, _, rfl, rfl, _, _, rfl, rfl, rfl⟩ := hr
  obtain ⟨e1, c1, d1⟩ := qiK H.glob h1
  obtain ⟨e2, c2, d2⟩ := qiK H.glob h2
  refine qvK (e := ρ.t 5) H rfl hm (fun hb v hv => ?_) (fun hb hv => ?_) (fun hb hv => ?_) <;> simp only [pOk, decide_eq_true_eq] at hb
  ·exact Any.strconv_ParseInt_10_at64_ok L ⟨s.toArray⟩ (by simp [ByteArray.size]; omega) v (by simpa using hv) w
  ·refine (Any.strconv_ParseInt_10_at64_range L ⟨s.toArray⟩ (by simpa [ByteArray.size] using hb) (by simpa using hv) e2 w c2 d2).mono ?_
   rintro e w' ⟨N, rfl, _, _, hw⟩
   exact ⟨N, rfl, hw⟩
  ·refine (Any.strconv_ParseInt_10_at64_syntax L ⟨s.toArray⟩ (by simpa [ByteArray.size] using hb) (qJr (by simpa using hv) rfl) e1 w c1 d1).mono ?_
   rintro e w' ⟨N, rfl, _, _, hw⟩
   exact ⟨N, rfl, hw⟩
 ·cases hm
theorem qzS {P : Program} {ρ : Ren} (L : LaysC.n172 P ρ) (hE : qbN P (ρ.f 172)) {t1 t2 : TypeId} {x1 x2 : AV} (h1 : Globs.g (ρ.g 15) = some [.iface t1 x1]) (h2 : Globs.g (ρ.g 16) = some [.iface t2 x2]) : qgI P (ρ.f 172) (gOf (qqE (ρ.t 168))) := by
 refine qg0 hE fun a h r h' hm w I m vs H hr => ?_
 unfold qqE at hm
 split at hm
 ·rename_i s
  simp only [qaz, Rel] at hr
  obtain ⟨_, _, rfl, rfl, rfl⟩ := hr
  obtain ⟨e1, c1, d1⟩ := qiK H.glob h1
  obtain ⟨e2, c2, d2⟩ := qiK H.glob h2
  refine qvK (e := ρ.t 5) H rfl hm (fun hb v hv => ?_) (fun hb hv => ?_) (fun hb hv => ?_) <;> simp only [pOk, decide_eq_true_eq] at hb
  ·exact Any.strconv_Atoi_ok L ⟨s.toArray⟩ (by simp [ByteArray.size]; omega) v (by simpa using hv) w
  ·refine (Any.strconv_Atoi_range L ⟨s.toArray⟩ (by simpa [ByteArray.size] using hb) (by simpa using hv) e2 w c2 d2).mono ?_
   rintro e w' ⟨N, rfl, _, _, hw⟩
   exact ⟨N, rfl, hw⟩
  ·refine (Any.strconv_Atoi_syntax L ⟨s.toArray⟩ (by simpa [ByteArray.size] using hb) (qJr (by simpa using hv) rfl) e1 w c1 d1).mono ?_
   rintro e w' ⟨N, rfl, _, _, hw⟩
   exact ⟨N, rfl, hw⟩
 ·cases hm
end Go.Eng
namespace Go.Eng
open Go.Shelf
set_option linter.unusedSectionVars false
theorem qvm {P : Program} {W : World} {n : String} {d : DataW Unit} {r : List (String × DataW Unit)} (h : laidMet P ((n, d) :: r) W) {g : Nat} (hg : P.globalNamed n = some g) {cs : Array Value} (hv : W.var? P n = some cs) (hne : 0 < cs.size) : ∃ e, W.heap[g]? = some (.cells cs e (0, 0)) := by
 obtain ⟨ps, ⟨g0, t0, cs0, f0, p0, q0, hg0, ht0, hv0, hd0, _, e0⟩, _, hrows⟩ := h
 obtain rfl := Option.some.inj (hg.symm.trans hg0)
 obtain rfl := Option.some.inj (hv.symm.trans hv0)
 subst e0
 obtain ⟨c, t, hc⟩ := (hrows g 0 (by
  simp only [MemPlace.row, List.mem_append]
  exact .inl (.inl (by simp; omega)))).1
 unfold World.var? at hv
 rw [hg, Option.bind_some, hc] at hv
 cases hv
 exact ⟨t, hc⟩
def qqv (W : World) (I : Imm) (g : Nat) (cs : List AV) : Prop := ∃ (C : Array Value) (e : TypeId), W.heap[g]? = some (Obj.cells C e (0, 0)) ∧ C.size = cs.length ∧ ∀ (i : Nat) (c : AV), cs[i]? = some c → qaP c = true ∧ ∃ v, C[i]? = some v ∧ Rel W I c m0 v
theorem qtW {P : Program} {W : World} {I : Imm} {n : String} {k : IntKind} {zs : List Int} {r : List (String × DataW Unit)} (h : laidMet P ((n, Lib.tabData k zs) :: r) W) {g : Nat} {t e : TypeId} {m : Nat}
  (hg : P.globalNamed n = some g) (hty : (P.globals[g]?).map (·.type) = some t) (ht : P.underlying t = some (.array m e)) (he : P.underlying e = some (.int k)) (hce : P.cellsOf e = 1) (hct : P.cellsOf t = m) (hz : 0 < zs.length) : qqv W I g (zs.map (.int k)) := by
 have hv := Lib.tabIs_of_head hg hty ht he hce hct h
 unfold Lib.TabIs at hv
 obtain ⟨e', hC⟩ := qvm h hg hv (by simpa using hz)
 refine ⟨_, e', hC, by simp, fun i c hc => ?_⟩
 rw [List.getElem?_map, Option.map_eq_some_iff] at hc
 obtain ⟨z, hz, rfl⟩ := hc
 exact ⟨rfl, .int k z, by simp [hz], by simp [Rel]⟩
theorem qkK {P : Program} {W : World} {I : Imm} {n nm : String} {text : List UInt8} {r : List (String × DataW Unit)} {g : Nat} {ti tp te ts : TypeId} {ms : Array (String × TypeId)} {f : Field}
  (h : laidMet P ((n, .iface nm (.ptr (.agg [.lit (.string text)]))) :: r) W)
  (hg : P.globalNamed n = some g) (ht : (P.globals[g]?).map (·.type) = some ti) (hi : P.underlying ti = some (.interface ms)) (hrow : ∀ u, P.typeName? 3 u = some nm → u = tp)
  (hp : P.underlying tp = some (.pointer te)) (he : P.underlying te = some (.struct #[f])) (hft : f.type = ts) (hfo : f.offset = 0) (hs : P.underlying ts = some .string) (hc : P.cellsOf te = 1) (hcs : P.cellsOf ts = 1) : qqv W I g [qAg tp] := by
 obtain ⟨a, s, hv, hcell, _, _⟩ := laid_sentinel h hg ht hi hrow hp he hft hfo hs hc hcs
 obtain ⟨e', hC⟩ := qvm h hg hv (by simp)
 refine ⟨_, e', hC, by simp, fun i c hi => ?_⟩
 have hi0 : i = 0 ∧ c = qAg tp := by
  cases i with
  | zero => simp at hi; exact ⟨rfl, hi.symm⟩
  | succ i => simp at hi
 obtain ⟨rfl, rfl⟩ := hi0
 refine ⟨rfl, _, rfl, ?_⟩
 obtain ⟨b, o, sp⟩ := a
 have hsp : sp = none := by
  cases sp with
  | none => rfl
  | some x =>
   simp only [World.cell?, Option.isSome_some, if_true] at hcell
   split at hcell <;> cases hcell
 subst hsp
 simp only [qAg, Rel]
 exact ⟨_, rfl, b, o, rfl, by simp [qs1]⟩
theorem qMR [Globs] {W : World} {I0 : Imm} (h : ∀ g cs, Globs.g g = some cs → qqv W (fun b o => I0 b o ∨ ∃ cs, Globs.g b = some cs ∧ o < cs.length) g cs) : GlobAt W (fun b o => I0 b o ∨ ∃ cs, Globs.g b = some cs ∧ o < cs.length) := by
 intro g cs hg
 obtain ⟨C, e, hC, hsz, hall⟩ := h g cs hg
 refine ⟨qbh.2 fun i c hc => ?_, C, e, hC, hsz⟩
 obtain ⟨h1, v, hv, hr⟩ := hall i c hc
 refine ⟨.inr ⟨cs, hg, by rw [Nat.zero_add]; exact (List.getElem?_eq_some_iff.1 hc).1⟩, h1, v, ?_, hr⟩
 rw [Nat.zero_add]
 exact (qdg hC).trans hv
theorem qMS [Globs] {W : World} {I0 I : Imm} (h : ∀ g cs, Globs.g g = some cs → qqv W I g cs) (h0 : ∀ b o, I0 b o → b < W.heap.size) : ∀ b o, (I0 b o ∨ ∃ cs, Globs.g b = some cs ∧ o < cs.length) → b < W.heap.size := by
 rintro b o (hb | ⟨cs, hg, _⟩)
 ·exact h0 b o hb
 ·obtain ⟨C, e, hC, _⟩ := h b cs hg
  exact (Array.getElem?_eq_some_iff.1 hC).1
end Go.Eng
namespace Go.Eng
set_option linter.unusedSectionVars false
variable [Globs]
mutual
def qcx {H : Type} : DataW H → Nat
 | .lit (.string bytes) => bytes.length + 1
 | .lit _ => 1
 | .nil => 1
 | .ptr d => qcx d + 1
 | .slice elems spare => qcb elems + qcb spare + 1
 | .agg parts => qcb parts + 1
 | .iface _ d => qcx d + 1
 | .map entries => qep entries + 1
 | .held _ => 1
def qcb {H : Type} : List (DataW H) → Nat
 | [] => 0
 | d :: r => qcx d + qcb r
def qep {H : Type} : List (Lit × DataW H) → Nat
 | [] => 0
 | x :: r => qjO x + qep r
def qjO {H : Type} : Lit × DataW H → Nat
 | (.string bytes, d) => bytes.length + qcx d + 1
 | (_, d) => qcx d + 1
end
theorem qzX {H : Type} (d : DataW H) : 1 ≤ qcx d := by
 cases d with
 | lit l => cases l <;> simp [qcx]
 | _ => simp [qcx]
theorem qga {H : Type} : ∀ l : List (DataW H), l.length ≤ qcb l
 | [] => by simp [qcb]
 | d :: l => by
  have := qzX d
  have := qga l
  simp only [qcb, List.length_cons]; omega
theorem qeo {H : Type} {d : DataW H} : ∀ {l : List (DataW H)}, d ∈ l → qcx d ≤ qcb l
 | x :: l, h => by
  simp only [qcb]
  rcases List.mem_cons.1 h with rfl | h
  ·omega
  ·have := qeo h; omega
section
variable {H : Type} {enc : TypeId × Value → H} {P : Program} {w : World} {base : Nat} {spare : Nat → Bool} {held : Bool} {I : Imm}
theorem qdi {N : Nat} {ts : List TypeId} (hT : qUZ P ts = true) : ∀ (fuel : Nat) {n : Nat} {t : TypeId} {sh : List Sh}, shS P n t = some sh → (∀ e ∈ qcy sh, e ∈ ts) → ∀ {cs : List Value} {x : DataW H × List MemPlace}, DataW.trod enc P w base spare held fuel t cs = some x → (∀ b o, .cell b o ∈ x.2 → I b o) → qcx x.1 ≤ N →
  ∃ xs, qfa (Fit N (shT P) fuel) sh xs ∧ qaz w I xs m0 cs
 | 0, n, t, sh, hs, he, cs, x, hx, hI, hB => by simp [DataW.trod] at hx
 | fuel + 1, 0, t, sh, hs, he, cs, x, hx, hI, hB => by simp [shS] at hs
 | fuel + 1, n + 1, t, sh, hs, he, cs, x, hx, hI, hB => by
  simp only [shS] at hs
  split at hs
  ·rename_i hu
   cases hs
   obtain ⟨b, rfl, rfl⟩ := DataW.trod_bool hu hx
   exact ⟨[.bool b], by simp [qfa, Fit], by simp [qaz, Rel]⟩
  ·rename_i k hu
   cases hs
   obtain ⟨i, rfl, rfl, hw⟩ := DataW.trod_int hu hx
   exact ⟨[.int k i], by simp [qfa, Fit, hw], by simp [qaz, Rel]⟩
  ·rename_i hu
   cases hs
   obtain ⟨s, rfl, rfl, hw⟩ := DataW.trod_string hu hx
   refine ⟨[.str s.data.toList], ?_, ?_⟩
   ·simp only [qfa, Fit]
    simp only [qcx] at hB
    exact ⟨_, [], rfl, ⟨_, rfl, by omega⟩, rfl⟩
   ·simp [qaz, Rel]
  ·rename_i e hu
   simp only [Option.map_eq_some_iff] at hs
   obtain ⟨g, hg, rfl⟩ := hs
   have hem : e ∈ ts := he e (by simp [qcy])
   have hok := List.all_eq_true.1 hT e hem
   split at hok
   ·rename_i ec hec
    simp only [Bool.and_eq_true, decide_eq_true_eq, hg] at hok
    obtain ⟨⟨⟨hlen, hpos⟩, hg1⟩, hel⟩ := hok
    have hsh : shT P e = ec := by simp [shT, hec]
    have hsub : ∀ t ∈ qcy ec, t ∈ ts := fun t ht => by simpa using List.all_eq_true.1 hel t ht
    ·rcases DataW.trod_slice hu hx with ⟨rfl, rfl⟩ | ⟨a, len, cap, elems, rest, fu, hfu, rfl, rfl, hb, hle, hcap, hlen', hels, _, _⟩
     ·refine ⟨[.view (P.cellsOf e) []], ?_, ?_⟩
      ·cases g <;> simp [qfa, Fit]
      ·simp only [qaz, Rel]
       exact ⟨_, [], rfl, ⟨none, 0, by simp, by simp, .inl rfl, fun _ => rfl⟩, rfl⟩
     ·obtain rfl : fuel = fu := by omega
      have hlm : len ≤ elems.length + rest.length := by omega
      generalize hm : elems.length + rest.length = m at *
      have hBl : len ≤ N := by
       simp only [qcx] at hB
       have h1 := qga (elems.map (·.1))
       have h2 := qga (rest.map (·.1))
       simp only [List.length_map] at h1 h2
       omega
      have hBe : ∀ i (hi : i < len), qcx (elems[i]'(by omega)).1 ≤ N := by
       intro i hi
       simp only [qcx] at hB
       have h1 := qeo (d := (elems[i]'(by omega)).1) (l := elems.map (·.1)) (List.mem_map.2 ⟨_, List.getElem_mem _, rfl⟩)
       omega
      have each : ∀ i, i < len → ∃ xs : List AV, qfa (Fit N (shT P) fuel) ec xs ∧ ∃ cs', w.cells? base (a.add (i * P.cellsOf e)) (P.cellsOf e) = some cs' ∧ qaz w I xs m0 cs' := by
       intro i hi
       have key := hels i hi
       rw [List.getElem?_eq_getElem (by omega)] at key
       obtain ⟨cs', hc', hd⟩ := Option.bind_eq_some_iff.1 key
       obtain ⟨xs, h1, h2⟩ := qdi hT fuel hec hsub hd (fun b o hp => hI b o (List.mem_append_right _ (List.mem_flatMap.2 ⟨_, List.mem_append_left _ (List.getElem_mem (show i < elems.length by omega)), hp⟩))) (hBe i hi)
       exact ⟨xs, h1, cs', hc', h2⟩
      obtain ⟨F, hF⟩ := Deep.choose_lt each
      let pk : List AV → AV := fun xs => if g then .agg xs else xs.headD .junk
      have hpk : ∀ i, i < len → qab (pk (F i)) = F i ∧ (g = true ∨ (F i).length = 1) := by
       intro i hi
       obtain ⟨h1, cs', hc', h2⟩ := hF i hi
       have hln := qgX h1
       cases g with
       | true => exact ⟨rfl, .inl rfl⟩
       | false =>
        have h1c : ec.length = 1 := by simpa using hg1
        have hx1 : (F i).length = 1 := by omega
        refine ⟨?_, .inr hx1⟩
        match hFi : F i, hx1 with
        | [y], _ =>
         simp only [pk]
         have hy := qgq h1 y (by rw [hFi]; simp)
         cases y <;> first | rfl | simp [qaP] at hy
      have hspot : 0 < len → a = ad a.block a.off := by
       intro h0
       obtain ⟨_, cs', hc', _⟩ := hF 0 h0
       obtain ⟨_, hcl, hcc⟩ := World.cells?_some hc'
       have h0c : 0 < P.cellsOf e := by omega
       have := hcc 0 h0c
       have hlt : 0 < cs'.length := by omega
       rw [List.getElem?_eq_getElem hlt] at this
       have := qEw this
       simpa [Addr.add] using this
      have hflat : ∀ k, k ≤ len → ∀ o, (∀ i, i < k → At w I (F i) a.block (o + i * P.cellsOf e)) → At w I (flat ((List.range k).map fun i => pk (F i))) a.block o := by
       intro k
       induction k with
       | zero => intro _ o _; intro i c hc; simp [flat] at hc
       | succ k ih =>
        intro hk o hall
        rw [List.range_succ, List.map_append, qbj, qjL]
        refine ⟨ih (by omega) o fun i hi => hall i (by omega), ?_⟩
        have hfl : (flat ((List.range k).map fun i => pk (F i))).length = k * P.cellsOf e := by
         rw [qa3 (sz := P.cellsOf e) fun x hx => ?_]
         ·simp
         ·obtain ⟨i, hi, rfl⟩ := List.mem_map.1 hx
          have hi' : i < k := by simpa using hi
          rw [(hpk i (by omega)).1, qgX (hF i (by omega)).1, hlen]
        rw [hfl]
        have : flat ([k].map fun i => pk (F i)) = F k := by simp [flat, (hpk k (by omega)).1]
        rw [this]
        exact hall k (by omega)
      refine ⟨[.view (P.cellsOf e) ((List.range len).map fun i => pk (F i))], ?_, ?_⟩
      ·simp only [qfa]
       refine ⟨_, [], rfl, ?_, rfl⟩
       cases g with
       | true =>
        simp only [Fit]
        refine ⟨_, rfl, by simp; omega, fun x hx => ?_⟩
        obtain ⟨i, hi, rfl⟩ := List.mem_map.1 hx
        exact ⟨F i, rfl, by rw [hsh]; exact (hF i (by simpa using hi)).1⟩
       | false =>
        simp only [Fit]
        refine ⟨_, rfl, by simp; omega, fun x hx => ?_⟩
        obtain ⟨i, hi, rfl⟩ := List.mem_map.1 hx
        have hi' : i < len := by simpa using hi
        have h1 := (hpk i hi').2
        have hg := (hF i hi').1
        rw [hsh]
        match hFi : F i, h1.resolve_left (by simp) with
        | [y], _ => rw [hFi] at hg; simpa [pk, hFi] using hg
      ·simp only [qaz, Rel]
       refine ⟨_, [], rfl, ⟨some a, cap, by simp, by simp; omega, ?_, fun hn => by cases hn⟩, rfl⟩
       rcases Nat.eq_zero_or_pos len with h0 | h0
       ·exact .inl (by simp [h0])
       ·refine .inr ⟨a.block, a.off, by rw [← hspot h0], qfo.2 ⟨fun x hx => ?_, hflat len (Nat.le_refl _) a.off fun i hi => ?_⟩⟩
        ·obtain ⟨i, hi, rfl⟩ := List.mem_map.1 hx
         have hi' : i < len := by simpa using hi
         rw [(hpk i hi').1, qgX (hF i hi').1, hlen]
        ·obtain ⟨hg, cs', hc', hr⟩ := hF i hi
         obtain ⟨_, hcl, hcc⟩ := World.cells?_some hc'
         refine qFY hr (qgq hg) (n := P.cellsOf e) (fun j hj => ?_) (by rw [qgX hg, hlen]) fun j hj => ?_
         ·rw [← hcc j hj, qOE a _ (hspot h0), qeG]
         ·have hlt : i * P.cellsOf e + j < m * P.cellsOf e := by
           calc i * P.cellsOf e + j < i * P.cellsOf e + P.cellsOf e := by omega
            _ = (i + 1) * P.cellsOf e := by rw [Nat.add_mul, Nat.one_mul]
            _ ≤ m * P.cellsOf e := Nat.mul_le_mul_right _ (by omega)
          have := hI a.block (a.off + (i * P.cellsOf e + j)) (List.mem_append_left _ (qNc hlt))
          rwa [← Nat.add_assoc] at this
   ·cases hok
  ·rename_i fs hu
   split at hs
   ·rename_i sc hsc
    split at hs
    ·rename_i hl
     cases hs
     obtain ⟨ys, fu, hfu, rfl, hcl, hyl, hf⟩ := DataW.trod_struct hu hx
     obtain rfl : fuel = fu := by omega
     have hBy : ∀ i (hi : i < ys.length), qcx ys[i].1 ≤ N := by
      intro i hi
      simp only [qcx] at hB
      have h1 := qeo (d := ys[i].1) (l := ys.map (·.1)) (List.mem_map.2 ⟨_, List.getElem_mem _, rfl⟩)
      omega
     have key : ∀ (fl : List Field) (k off : Nat) (sc : List Sh), fs.toList.drop k = fl → qEv P (shS P n) fl off = some sc → (∀ e ∈ qcy sc, e ∈ ts) → off + sc.length = cs.length → ∃ xs, qfa (Fit N (shT P) (fuel + 1)) sc xs ∧ qaz w I xs m0 (cs.drop off) := by
      intro fl
      induction fl with
      | nil =>
       intro k off sc _ h1 _ h2
       simp [qEv] at h1; subst h1
       refine ⟨[], by simp [qfa], ?_⟩
       have : cs.drop off = [] := by apply List.drop_of_length_le; simp at h2; omega
       rw [this]; simp [qaz]
      | cons f fl ih =>
       intro k off sc hk h1 hel h2
       simp only [qEv] at h1
       split at h1
       ·rename_i hoff
        split at h1
        ·rename_i c1 hc1
         split at h1
         ·rename_i hl1
          split at h1
          ·rename_i r hr
           cases h1
           have hfk : fs[k]? = some f := by
            have h0 := congrArg (·[0]?) hk
            simpa using h0
           have hdrop : fs.toList.drop (k + 1) = fl := by
            have h0 := congrArg (List.drop 1) hk
            simpa using h0
           have hlt : k < ys.length := by rw [hyl]; exact (Array.getElem?_eq_some_iff.1 hfk).1
           have hd := hf k f hfk
           rw [List.getElem?_eq_getElem hlt] at hd
           rw [qfO] at hel
           obtain ⟨xs, g1, g2⟩ := qdi hT fuel hc1 (fun e he => hel e (List.mem_append_left _ he)) hd (fun b o hp => hI b o (List.mem_flatMap.2 ⟨_, List.getElem_mem hlt, hp⟩)) (hBy k hlt)
           obtain ⟨xs', g3, g4⟩ := ih (k + 1) _ _ hdrop hr (fun e he => hel e (List.mem_append_right _ he)) (by simp at h2; omega)
           refine ⟨xs ++ xs', qgp (qcp (qgZ _) g1) g3, ?_⟩
           have hsplit : cs.drop off = (cs.drop off).take c1.length ++ cs.drop (off + c1.length) := by
            rw [← List.drop_drop, List.take_append_drop]
           rw [hsplit]
           rw [← hl1, hoff] at g2
           exact qcg g2 g4
          ·cases h1
         ·cases h1
        ·cases h1
       ·cases h1
     have := key fs.toList 0 0 _ rfl hsc he (by omega)
     simpa using this
    ·cases hs
   ·cases hs
  ·rename_i k e hu
   split at hs
   ·rename_i ec hec
    split at hs
    ·rename_i hl
     cases hs
     obtain ⟨hl1, hl2⟩ := hl
     obtain ⟨ys, fu, hfu, rfl, hcl, hyl, hf⟩ := DataW.trod_array hu hx
     obtain rfl : fuel = fu := by omega
     have hBy : ∀ i (hi : i < ys.length), qcx ys[i].1 ≤ N := by
      intro i hi
      simp only [qcx] at hB
      have h1 := qeo (d := ys[i].1) (l := ys.map (·.1)) (List.mem_map.2 ⟨_, List.getElem_mem _, rfl⟩)
      omega
     have hzero : k = 0 ∨ ∀ e ∈ qcy ec, e ∈ ts := by
      cases k with
      | zero => exact .inl rfl
      | succ k => exact .inr fun e h => he e (by simp only [qQw, qfO, List.mem_append]; exact .inl h)
     have key : ∀ (j i : Nat), i + j = k → ∃ xs, qfa (Fit N (shT P) (fuel + 1)) (qQw ec j) xs ∧ qaz w I xs m0 (cs.drop (i * ec.length)) := by
      intro j
      induction j with
      | zero =>
       intro i hi
       refine ⟨[], by simp [qQw, qfa], ?_⟩
       have hik : i = k := by omega
       have : cs.drop (i * ec.length) = [] := by apply List.drop_of_length_le; rw [hik, hl2]; omega
       rw [this]; simp [qaz]
      | succ j ih =>
       intro i hi
       have hlt : i < ys.length := by omega
       have hd := hf i (by omega)
       rw [List.getElem?_eq_getElem hlt] at hd
       obtain ⟨xs, g1, g2⟩ := qdi hT fuel hec (hzero.resolve_left (by omega)) hd (fun b o hp => hI b o (List.mem_flatMap.2 ⟨_, List.getElem_mem hlt, hp⟩)) (hBy i hlt)
       obtain ⟨xs', g3, g4⟩ := ih (i + 1) (by omega)
       refine ⟨xs ++ xs', qgp (qcp (qgZ _) g1) g3, ?_⟩
       have hsplit : cs.drop (i * ec.length) = (cs.drop (i * ec.length)).take ec.length ++ cs.drop ((i + 1) * ec.length) := by
        rw [Nat.add_mul, Nat.one_mul, ← List.drop_drop, List.take_append_drop]
       rw [hsplit]
       rw [← hl1] at g2
       exact qcg g2 g4
     have := key k 0 (by omega)
     simpa using this
    ·cases hs
   ·cases hs
  ·cases hs
theorem qqC {N : Nat} {qs : List TypeId} (hT : qUZ P qs = true) {W : World} {r : Reach} {b0 : Nat} : ∀ {ts : List TypeId} {ps : List (Bool × List Sh)} {vs : List Value} {ds : List (DataW H)} {pl : List MemPlace}, (∀ t ∈ ts, t ∈ qs) → qR0 P ts = some ps → DataW.TrodAll enc P w base spare held ts vs ds pl →
  (∀ (j : Nat) t v, ts[j]? = some t → vs[j]? = some v → Value.okWide P W r b0 t v) → (∀ b o, .cell b o ∈ pl → I b o) → qcb ds ≤ N → ∃ d avs, qLF (Fit N (shT P) d) ps avs ∧ qaz w I avs m0 vs
 | [], ps, [], [], pl, _, hp, _, _, _, _ => by
  simp [qR0] at hp; subst hp
  exact ⟨0, [], rfl, by simp [qaz]⟩
 | [], ps, _ :: _, _, pl, _, _, h, _, _, _ => by simp [DataW.TrodAll] at h
 | [], ps, [], _ :: _, pl, _, _, h, _, _, _ => by simp [DataW.TrodAll] at h
 | _ :: _, ps, [], _, pl, _, _, h, _, _, _ => by simp [DataW.TrodAll] at h
 | _ :: _, ps, _ :: _, [], pl, _, _, h, _, _, _ => by simp [DataW.TrodAll] at h
 | t :: ts, ps, v :: vs, d :: ds, pl, hq, hp, h, hv, hI, hB => by
  simp only [qcb] at hB
  simp only [DataW.TrodAll] at h
  obtain ⟨p, q, ⟨fu, hd⟩, hrest, rfl⟩ := h
  simp only [qR0] at hp
  split at hp
  ·rename_i g rr hg hr
   split at hp
   ·cases hp
    have hok := List.all_eq_true.1 hT t (hq t (by simp))
    split at hok
    ·rename_i cs hcs
     have hsh : shT P t = cs := by simp [shT, hcs]
     simp only [Bool.and_eq_true] at hok
     obtain ⟨_, hel⟩ := hok
     obtain ⟨xs, h1, h2⟩ := qdi (N := N) hT fu hcs (fun e he => by simpa using List.all_eq_true.1 hel e he) hd (fun b o hm => hI b o (List.mem_append_left _ hm)) (show qcx d ≤ N by omega)
     obtain ⟨d', avs, h3, h4⟩   := qqC (N := N) hT (fun t ht => hq t (by simp [ht])) hr hrest (fun j t v ht hv' => hv (j + 1) t v (by simpa using ht) (by simpa using hv')) (fun b o hm => hI b o (List.mem_append_right _ hm)) (by omega)
     have h1' := qcp (fun c x => qJE (Nat.le_max_left fu d')) h1
     have h3' := qkF (fun c x => qJE (Nat.le_max_right fu d')) h3
     have hok := hv 0 t v rfl rfl
     rw [hsh]
     refine ⟨max fu d', ?_⟩
     cases g with
     | true =>
      obtain ⟨ca, rfl⟩ := qPX hg hok
      refine ⟨.agg xs :: avs, ⟨xs, avs, rfl, h1', h3'⟩, ?_⟩
      simp only [qaz, Rel]
      exact ⟨_, vs, rfl, ⟨ca.toList, by simp, h2⟩, h4⟩
     | false =>
      have hcell := qM2 hg hok
      rw [hcell] at h2
      match xs, h2 with
      | [x], h2 =>
       simp only [qaz] at h2
       obtain ⟨v', vs', he, h2, _⟩ := h2
       cases he
       refine ⟨x :: avs, ⟨x, avs, rfl, h1', h3'⟩, ?_⟩
       simp only [qaz]
       exact ⟨v, vs, rfl, h2, h4⟩
      | [], h2 => simp [qaz] at h2
      | _ :: _ :: _, h2 =>
       have := qaG h2
       simp at this
    ·cases hok
   ·cases hp
  ·cases hp
end
end Go.Eng
namespace Go.Eng
section
variable {N : Nat} {T : TypeId → List Sh}
theorem qaT {d : Nat} {k : IntKind} {x : AV} (h : Fit N T d (.int k) x) : ∃ n, x = .int k n ∧ (Lit.int k n).wf = true := by
 cases d with
 | zero => exact h.elim
 | succ d => exact h
theorem qgY {d : Nat} {x : AV} (h : Fit N T d .bool x) : ∃ b, x = .bool b := by
 cases d with
 | zero => exact h.elim
 | succ d => exact h
theorem qb0 {d : Nat} {x : AV} (h : Fit N T d .str x) : ∃ s, x = .str s ∧ s.length ≤ N := by
 cases d with
 | zero => exact h.elim
 | succ d => exact h
theorem qdH {d sz : Nat} {t : TypeId} {x : AV} {τ : Type} {av : τ → AV} {p : τ → Prop} (h : Fit N T d (.slice sz true t) x)
  (he : ∀ d xs, qfa (Fit N T d) (T t) xs → ∃ y : τ, .agg xs = av y ∧ p y) : ∃ l : List τ, x = .view sz (l.map av) ∧ l.length ≤ N ∧ ∀ y ∈ l, p y := by
 cases d with
 | zero => exact h.elim
 | succ d =>
  obtain ⟨es, rfl, hl, hx⟩ := h
  obtain ⟨m, rfl, hm⟩ := qub (f := av) (p := p) (l := es) fun e hx' => by
   obtain ⟨xs, rfl, hf⟩ := hx e hx'
   exact he d xs hf
  exact ⟨m, rfl, by simpa using hl, hm⟩
theorem qq4 {d sz : Nat} {g : Bool} {t : TypeId} {x : AV} (h : Fit N T d (.slice sz g t) x) : ∃ es, x = .view sz es ∧ es.length ≤ N := by
 cases d with
 | zero => exact h.elim
 | succ d => cases g <;> obtain ⟨es, rfl, hl, _⟩ := h <;> exact ⟨es, rfl, hl⟩
end
end Go.Eng
