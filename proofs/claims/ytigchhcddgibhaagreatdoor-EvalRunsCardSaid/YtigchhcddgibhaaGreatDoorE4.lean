/- A machine of plain values, and that what it says holds of the program. -/
import Derived.Test.YtigchhcddgibhaaGreatDoorE3
import Derived.Below
import Derived.Shelf.Strings.Fields
import Derived.Shelf.Strings.Count
import Derived.Shelf.Strings.Search1
import Derived.Shelf.Strconv.ParseIntPublic10
import Derived.Shelf.Strconv.AtoiAll
import Derived.Shelf.Strconv.Itoa4
import Derived.Test.YtigchhcddgibhaaGreatDoorE2
import Derived.Stop.LaidErr
import Derived.Lib.LaidTab
import Derived.Laws.Externs
import Derived.Shelf.Spec.BitsCarry
import Derived.Shelf.Bits.Mul64
import Derived.Shelf.Small.Bits
set_option linter.unusedVariables false
set_option linter.unusedSimpArgs false
set_option linter.unnecessarySimpa false
namespace Go.Eng
set_option linter.unusedSectionVars false
variable [Globs]
theorem qva {w w' : World} {I : Imm} (ho : ∀ b o, I b o -> b < w.heap.size) (hb : RowKit.Below w.heap.size w w') : Stays w w' I where
 size := hb.size
 row := fun b C e h => ⟨C, by rw [hb.block b (Array.getElem?_eq_some_iff.1 h).1]; exact h, rfl⟩
 imm := fun b o hi => by simp only [World.cell?, ad]; rw [hb.block b (ho b o hi)]
 out := ⟨hb.os, hb.output, hb.tape⟩
theorem qQq {w w' : World} {I I' : Imm} {m : Names} {h : qaA} (H : HeapAt w I m h) (hb : RowKit.Below w.heap.size w w') (hI : ∀ b o, I b o -> I' b o) (hN : ∀ b o, I' b o -> I b o \/ w.heap.size <= b /\ b < w'.heap.size) : Aft w w' I I' m m h h where
 stays := qva H.old hb
 imm := hI
 names := fun _ _ h => h
 heap := {
  at_ := fun i b hi => by
   obtain ⟨L, hL, hat⟩ := H.at_ i b hi
   refine ⟨L, hL, hat.keep (qva H.old hb) hI (fun _ _ h => h) (hb.block _ hat.lt) fun o ho => ?_⟩
   rcases hN _ _ ho with h | h
   ·exact h
   ·have := hat.lt; omega
  apart := H.apart
  old := fun b o hi => by
   rcases hN b o hi with h | h
   ·exact Nat.lt_of_lt_of_le (H.old b o h) hb.size
   ·exact h.2
  glob := H.glob.mono (qva H.old hb) hI }
 frame := fun b hlt _ => hb.block b hlt
 newI := fun b o hi => (hN b o hi).imp id fun h => .inr h.1
 owns := fun _ h => .inl h
theorem qeZ {w w' : World} {I : Imm} {m : Names} {h : qaA} (H : HeapAt w I m h) (hb : RowKit.Below w.heap.size w w') {v : AV} {u : Value} (hu : Rel w' I v m u) : q3Q w I m h (.ret v) h (.returned u) w' :=
 ⟨I, m, qQq H hb (fun _ _ h => h) fun _ _ h => .inl h, u, rfl, hu⟩
theorem qXS : ∀ l : List (List UInt8), flat (l.map .str) = l.map .str
 | [] => rfl
 | s :: l => by
  have := qXS l
  simp only [flat, List.map_cons, List.flatMap_cons, qao] at this ⊢
  rw [this]; rfl
theorem q2l {w : World} {I : Imm} {m : Names} {h : qaA} (H : HeapAt w I m h) (l : List (List UInt8)) (e : TypeId) :
  q3Q w I m h (.ret (.view 1 (l.map .str))) h (.returned (.slice (some ⟨w.heap.size, 0, none⟩) l.length l.length)) (w.alloc (.cells (l.map fun s => Value.string ⟨s.toArray⟩).toArray e)) := by
 refine ⟨fun b o => I b o \/ b = w.heap.size, m, qQq H ((RowKit.Below.refl _ w).alloc (Nat.le_refl _) _) (fun _ _ => .inl) (fun b o hi => hi.imp id fun h => by simp; omega), _, rfl, ?_⟩
 simp only [Rel]
 refine ⟨some (ad w.heap.size 0), l.length, by simp [ad], by simp, .inr ⟨w.heap.size, 0, rfl, ?_⟩, by simp⟩
 rw [qsS]
 refine ⟨fun x hx => ?_, fun i c hc => ⟨.inr rfl, ?_⟩⟩
 ·obtain ⟨s, _, rfl⟩ := List.mem_map.1 hx
  rfl
 ·rw [qXS, List.getElem?_map, Option.map_eq_some_iff] at hc
  obtain ⟨s, hs, rfl⟩ := hc
  refine ⟨rfl, .string ⟨s.toArray⟩, ?_, by simp [Rel]⟩
  rw [qiU (heap_alloc_new w _)]
  simp [hs]
def gOf (E : Ent) : List AV -> qaA -> Option (Res × qaA) := fun a h => ((E a h).find? fun p => p.1).map fun p => p.2
theorem qgJ {IP : Prog} {f : Nat} {E : Ent} (hF : IP.fn f = none) (hS : IP.spec f = some (gOf E)) (h1 : ∀ a h p q, p ∈ E a h -> q ∈ E a h -> p.1 = true -> q.1 = true -> p.2 = q.2) : Snd IP f E := by
 intro a h r h' hm
 refine qLk hF hS ?_
 unfold gOf
 cases hq : (E a h).find? fun p => p.1 with
 | none => exact absurd rfl (List.find?_eq_none.1 hq _ hm)
 | some q =>
  have hp := List.find?_some hq
  rw [Option.map_some, h1 a h q _ (List.mem_of_find?_eq_some hq) hm hp rfl]
theorem qm3 {P : Program} {f : Nat} {E : Ent} (hE : qeU P f) (h1 : ∀ a h r h', (true, r, h') ∈ E a h -> ∀ (w : World) (I : Imm) (m : Names) (vs : List Value), HeapAt w I m h -> qaQ w I a m vs -> Calls P f vs.toArray w (q3Q w I m h r h')) : qm0 P f (gOf E) := by
 intro a h r h' hg
 unfold gOf at hg
 rw [Option.map_eq_some_iff] at hg
 obtain ⟨⟨b, q⟩, hq, rfl⟩ := hg
 have hb := List.find?_some hq
 have hm := List.mem_of_find?_eq_some hq
 simp only at hb
 subst hb
 exact fun w I m vs H _ hr => .inl ⟨hE, h1 a h r h' hm w I m vs H hr⟩
end Go.Eng
namespace Go.Eng
open Go.Shelf Go.Proofs
set_option linter.unusedSectionVars false
variable [Globs]
theorem qEZ {w : World} {I : Imm} (hg : GlobAt w I) {g : Nat} {cs : List AV} (h : Globs.g g = some cs) {i : Nat} {c : AV} (hc : cs[i]? = some c) : ∃ v, w.cell? (ad g i) = some v /\ Rel w I c m0 v := by
 obtain ⟨_, _, v, hv, hr⟩ := qe2.1 (hg g cs h).1 i c hc
 rw [Nat.zero_add] at hv
 exact ⟨v, hv, hr⟩
def qxo : List AV := Lib.asciiSpaceTab.map (.int .u8)
def qng : Ent := fun a h => match a, h with
 | [.str s], [] => [(s.all (fun b => decide (b.toNat < 128)) && decide (s.length < 4294967281), .ret (.view 1 ((Lib.fields s).map .str)), [])]
 | _, _ => []
theorem qES {P : Program} {ρ : Ren} (L : Lays.n157 P ρ) (hi9 : (P.info? (ρ.t 9)).map (fun i => (i.zero, i.size, i.bytes)) = some (some (.string ByteArray.empty), 1, 16)) (hE : qeU P (ρ.f 157))
  (hg : Globs.g (ρ.g 0) = some qxo) : qm0 P (ρ.f 157) (gOf qng) := by
 refine qm3 hE fun a h r h' hm w I m vs H hr => ?_
 unfold qng at hm
 split at hm
 ·rename_i s
  simp only [List.mem_singleton, Prod.mk.injEq, eq_comm (a := true), Bool.and_eq_true, List.all_eq_true, decide_eq_true_eq] at hm
  obtain ⟨⟨hs, hl⟩, rfl, rfl⟩ := hm
  simp only [qaQ, Rel] at hr
  obtain ⟨_, _, rfl, rfl, rfl⟩ := hr
  refine (Any.strings_Fields_core L hi9 ⟨s.toArray⟩ w (by simpa [ByteArray.size] using hl) (fun j b hb => hs b (List.mem_of_getElem? (by simpa using hb))) fun c hc => ?_).mono ?_
  ·obtain ⟨v, hv, hr⟩ := qEZ H.glob hg (i := c) (c := .int .u8 (if Lib.isSp (UInt8.ofNat c) then 1 else 0)) (by
    unfold qxo
    rw [List.getElem?_map, List.getElem?_eq_getElem (by rw [Lib.asciiSpaceTab_length]; exact hc), Option.map_some, <- Lib.asciiSpaceTab_at c hc]
    simp [Lib.asciiSpaceTab_length, hc])
   simp only [Rel] at hr
   subst hr
   exact hv
  ·rintro e w' ⟨rfl, rfl⟩
   exact q2l H _ _
 ·cases hm
def qtb : Ent := fun a h => match a, h with
 | [.str s, .str [c]], [] => [(true, .ret (.int .i64 (Lib.countByte s c)), [])]
 | _, _ => []
theorem qLn {P : Program} {ρ : Ren} (L : Lays.n138 P ρ) (hE : qeU P (ρ.f 138)) : qm0 P (ρ.f 138) (gOf qtb) := by
 refine qm3 hE fun a h r h' hm w I m vs H hr => ?_
 unfold qtb at hm
 split at hm
 ·rename_i s c
  simp only [List.mem_singleton, Prod.mk.injEq, true_and] at hm
  obtain ⟨rfl, rfl⟩ := hm
  simp only [qaQ, Rel] at hr
  obtain ⟨_, _, rfl, rfl, _, _, rfl, rfl, rfl⟩ := hr
  refine (Any.strings_Count_one L ⟨s.toArray⟩ c w).mono ?_
  rintro e w' ⟨rfl, rfl⟩
  exact qeZ H (RowKit.Below.refl _ _) (by simp [Rel])
 ·cases hm
def q3T : Ent := fun a h => match a, h with
 | [.str s, .int .u8 c], [] => [(true, .ret (.int .i64 (Lib.indexByte s c.toNat.toUInt8)), [])]
 | _, _ => []
theorem qXU {P : Program} {ρ : Ren} (L : Lays.n217 P ρ) (hE : qeU P (ρ.f 217)) : qm0 P (ρ.f 217) (gOf q3T) := by
 refine qm3 hE fun a h r h' hm w I m vs H hr => ?_
 unfold q3T at hm
 split at hm
 ·rename_i s c
  simp only [List.mem_singleton, Prod.mk.injEq, true_and] at hm
  obtain ⟨rfl, rfl⟩ := hm
  simp only [qaQ, Rel] at hr
  obtain ⟨_, _, rfl, rfl, _, _, rfl, rfl, rfl⟩ := hr
  refine (Any.stringslite_IndexByte L ⟨s.toArray⟩ c w).mono ?_
  rintro e w' ⟨rfl, rfl⟩
  exact qeZ H (RowKit.Below.refl _ _) (by simp [Rel])
 ·cases hm
theorem qfZ {E : Ent} (h : ∀ a h, (E a h).length <= 1) : ∀ a h p q, p ∈ E a h -> q ∈ E a h -> p.1 = true -> q.1 = true -> p.2 = q.2 := by
 intro a b p q hp hq _ _
 have := h a b
 match E a b, this, hp, hq with
 | [x], _, hp, hq => rw [List.mem_singleton.1 hp, List.mem_singleton.1 hq]
theorem qER : ∀ a h, (qng a h).length <= 1 := by intro a h; unfold qng; split <;> simp
theorem qLm : ∀ a h, (qtb a h).length <= 1 := by intro a h; unfold qtb; split <;> simp
theorem qXT : ∀ a h, (q3T a h).length <= 1 := by intro a h; unfold q3T; split <;> simp
end Go.Eng
namespace Go.Eng
open Go.Shelf Go.Proofs
set_option linter.unusedSectionVars false
variable [Globs]
def nOk : Lib.NumEnd Int -> Bool
 | .ok _ => true
 | _ => false
def q5a : Lib.NumEnd Int -> Int
 | .ok v => v
 | _ => 0
def qq9 : Lib.NumEnd Int -> Bool
 | .range => true
 | _ => false
def qg1 (x : Lib.NumEnd Int) : Bool := !nOk x && !qq9 x
def qVZ (t : TypeId) : AV := .iface t (.ptr [])
def q3U (t : TypeId) (x : Lib.NumEnd Int) (sat : Int) (b : Bool) : List (Bool × Res × qaA) :=
 [(b && nOk x, .ret (.tup [.int .i64 (q5a x), .nili]), []), (b && qq9 x, .ret (.tup [.int .i64 sat, qVZ t]), []), (b && qg1 x, .ret (.tup [.int .i64 0, qVZ t]), [])]
def pOk (s : List UInt8) : Bool := decide (s.length <= 281474976710656)
def qsp (t : TypeId) : Ent := fun a h => match a, h with
 | [.str s, .int .i64 10, .int .i64 64], [] => q3U t (Lib.parseIntB 64 s) (Lib.intSat 64 s) (pOk s)
 | _, _ => []
def qDB (t : TypeId) : Ent := fun a h => match a, h with
 | [.str s], [] => q3U t (Lib.atoiAll s) (Lib.atoiSat s) (pOk s)
 | _, _ => []
theorem qX9 {t : TypeId} {x : Lib.NumEnd Int} {sat : Int} {b : Bool} {p q : Bool × Res × qaA} (hp : p ∈ q3U t x sat b) (hq : q ∈ q3U t x sat b) (h1 : p.1 = true) (h2 : q.1 = true) : p.2 = q.2 := by
 cases x <;> cases b <;> simp [q3U, nOk, qq9, qg1] at hp hq <;> (rcases hp with rfl | rfl | rfl <;> rcases hq with rfl | rfl | rfl <;> simp_all)
theorem qLN {t : TypeId} : ∀ a h p q, p ∈ qsp t a h -> q ∈ qsp t a h -> p.1 = true -> q.1 = true -> p.2 = q.2 := by
 intro a h p q hp hq
 unfold qsp at hp hq
 split at hp
 ·exact qX9 hp hq
 ·cases hp
theorem qQw {t : TypeId} : ∀ a h p q, p ∈ qDB t a h -> q ∈ qDB t a h -> p.1 = true -> q.1 = true -> p.2 = q.2 := by
 intro a h p q hp hq
 unfold qDB at hp hq
 split at hp
 ·exact qX9 hp hq
 ·cases hp
theorem qT5 {w w' : World} {e : TypeId} (h : w' = w \/ ∃ t, w' = Lib.bytesWorld w e t) : RowKit.Below w.heap.size w w' := by
 rcases h with rfl | ⟨t, rfl⟩
 ·exact RowKit.Below.refl _ _
 ·exact Lib.bytesWorld_below _ _ _
theorem q2t {w : World} {I : Imm} {m : Names} {t N : Nat} : Rel w I (qVZ t) m (.iface t (.pointer (some ⟨N, 0, none⟩))) := by
 simp only [qVZ, Rel]
 exact ⟨_, rfl, N, 0, rfl, by simp [qTX]⟩
theorem qYa {P : Program} {w : World} {I : Imm} {m : Names} {h : qaA} (H : HeapAt w I m h) {f : Nat} {vs : Array Value} {t e : TypeId} {x : Lib.NumEnd Int} {sat : Int} {b : Bool} {r : Res} {h' : qaA} (hh : h = []) (hm : (true, r, h') ∈ q3U t x sat b)
  (h1 : b = true -> ∀ v, x = .ok v -> Calls P f vs w fun e' w' => e' = .returned (.tuple #[.int .i64 v, .nilIface]) /\ (w' = w \/ ∃ t, w' = Lib.bytesWorld w e t))
  (h2 : b = true -> x = .range -> Calls P f vs w fun e' w' => ∃ N, e' = .returned (.tuple #[.int .i64 sat, .iface t (.pointer (some ⟨N, 0, none⟩))]) /\ RowKit.Below w.heap.size w w')
  (h3 : b = true -> qg1 x = true -> Calls P f vs w fun e' w' => ∃ N, e' = .returned (.tuple #[.int .i64 0, .iface t (.pointer (some ⟨N, 0, none⟩))]) /\ RowKit.Below w.heap.size w w') : Calls P f vs w (q3Q w I m h r h') := by
 subst hh
 have hb : b = true := by
  cases b
  ·simp [q3U] at hm
  ·rfl
 subst hb
 rcases x with v | _ | _
 ·simp [q3U, nOk, qq9, qg1, q5a] at hm
  obtain ⟨rfl, rfl⟩ := hm
  refine (h1 rfl v rfl).mono ?_
  rintro e w' ⟨rfl, hw⟩
  exact qeZ H (qT5 hw) (by simp only [Rel, qaQ]; exact ⟨_, rfl, _, _, rfl, rfl, _, _, rfl, rfl, rfl⟩)
 ·simp [q3U, nOk, qq9, qg1] at hm
  obtain ⟨rfl, rfl⟩ := hm
  refine (h3 rfl rfl).mono ?_
  rintro e w' ⟨N, rfl, hw⟩
  refine qeZ H hw ?_
  have := q2t (w := w') (I := I) (m := m) (t := t) (N := N)
  simp only [Rel, qaQ]
  exact ⟨_, rfl, _, _, rfl, rfl, _, _, rfl, this, rfl⟩
 ·simp [q3U, nOk, qq9, qg1] at hm
  obtain ⟨rfl, rfl⟩ := hm
  refine (h2 rfl rfl).mono ?_
  rintro e w' ⟨N, rfl, hw⟩
  refine qeZ H hw ?_
  have := q2t (w := w') (I := I) (m := m) (t := t) (N := N)
  simp only [Rel, qaQ]
  exact ⟨_, rfl, _, _, rfl, rfl, _, _, rfl, this, rfl⟩
theorem qAt {w : World} {I : Imm} (hg : GlobAt w I) {g : Nat} {te : TypeId} {x : AV} (h : Globs.g g = some [.iface te x]) : ∃ ev, w.cell? ⟨g, 0, none⟩ = some ev /\ (ev = .nilIface \/ ∃ te pe, ev = .iface te pe) := by
 obtain ⟨v, hv, hr⟩ := qEZ hg h (i := 0) (c := .iface te x) rfl
 simp only [Rel] at hr
 obtain ⟨y, rfl, _⟩ := hr
 exact ⟨_, hv, .inr ⟨_, _, rfl⟩⟩
theorem q4S {x y : Lib.NumEnd Int} (hx : qg1 x = true) (hy : qg1 y = true) : x = y := by
 rcases x with _ | _ | _ <;> rcases y with _ | _ | _ <;> first | rfl | (simp [qg1, nOk, qq9] at hx; done) | (simp [qg1, nOk, qq9] at hy; done)
theorem qLO {P : Program} {ρ : Ren} (L : LaysC.n174 P ρ) (hE : qeU P (ρ.f 174)) {t1 t2 : TypeId} {x1 x2 : AV} (h1 : Globs.g (ρ.g 15) = some [.iface t1 x1]) (h2 : Globs.g (ρ.g 16) = some [.iface t2 x2]) : qm0 P (ρ.f 174) (gOf (qsp (ρ.t 168))) := by
 refine qm3 hE fun a h r h' hm w I m vs H hr => ?_
 unfold qsp at hm
 split at hm
 ·rename_i s
  simp only [qaQ, Rel] at hr
  obtain ⟨_, _, rfl, rfl, _, _, rfl, rfl, _, _, rfl, rfl, rfl⟩ := hr
  obtain ⟨e1, c1, d1⟩ := qAt H.glob h1
  obtain ⟨e2, c2, d2⟩ := qAt H.glob h2
  refine qYa (e := ρ.t 5) H rfl hm (fun hb v hv => ?_) (fun hb hv => ?_) (fun hb hv => ?_) <;> simp only [pOk, decide_eq_true_eq] at hb
  ·exact Any.strconv_ParseInt_10_at64_ok L ⟨s.toArray⟩ (by simp [ByteArray.size]; omega) v (by simpa using hv) w
  ·refine (Any.strconv_ParseInt_10_at64_range L ⟨s.toArray⟩ (by simpa [ByteArray.size] using hb) (by simpa using hv) e2 w c2 d2).mono ?_
   rintro e w' ⟨N, rfl, _, _, hw⟩
   exact ⟨N, rfl, hw⟩
  ·refine (Any.strconv_ParseInt_10_at64_syntax L ⟨s.toArray⟩ (by simpa [ByteArray.size] using hb) (q4S (by simpa using hv) rfl) e1 w c1 d1).mono ?_
   rintro e w' ⟨N, rfl, _, _, hw⟩
   exact ⟨N, rfl, hw⟩
 ·cases hm
theorem qQx {P : Program} {ρ : Ren} (L : LaysC.n172 P ρ) (hE : qeU P (ρ.f 172)) {t1 t2 : TypeId} {x1 x2 : AV} (h1 : Globs.g (ρ.g 15) = some [.iface t1 x1]) (h2 : Globs.g (ρ.g 16) = some [.iface t2 x2]) : qm0 P (ρ.f 172) (gOf (qDB (ρ.t 168))) := by
 refine qm3 hE fun a h r h' hm w I m vs H hr => ?_
 unfold qDB at hm
 split at hm
 ·rename_i s
  simp only [qaQ, Rel] at hr
  obtain ⟨_, _, rfl, rfl, rfl⟩ := hr
  obtain ⟨e1, c1, d1⟩ := qAt H.glob h1
  obtain ⟨e2, c2, d2⟩ := qAt H.glob h2
  refine qYa (e := ρ.t 5) H rfl hm (fun hb v hv => ?_) (fun hb hv => ?_) (fun hb hv => ?_) <;> simp only [pOk, decide_eq_true_eq] at hb
  ·exact Any.strconv_Atoi_ok L ⟨s.toArray⟩ (by simp [ByteArray.size]; omega) v (by simpa using hv) w
  ·refine (Any.strconv_Atoi_range L ⟨s.toArray⟩ (by simpa [ByteArray.size] using hb) (by simpa using hv) e2 w c2 d2).mono ?_
   rintro e w' ⟨N, rfl, _, _, hw⟩
   exact ⟨N, rfl, hw⟩
  ·refine (Any.strconv_Atoi_syntax L ⟨s.toArray⟩ (by simpa [ByteArray.size] using hb) (q4S (by simpa using hv) rfl) e1 w c1 d1).mono ?_
   rintro e w' ⟨N, rfl, _, _, hw⟩
   exact ⟨N, rfl, hw⟩
 ·cases hm
theorem q4f {P : Program} {w : World} {I : Imm} (hg : GlobAt w I) {g : Nat} {k : IntKind} {zs : List Int} {name : String} (hn : P.globalNamed name = some g) (h : Globs.g g = some (zs.map (.int k))) : Lib.TabIs P w name k zs := by
 obtain ⟨_, C, e, hC, hs⟩ := hg g _ h
 unfold Lib.TabIs World.var?
 simp only [hn, Option.bind_some, hC, Option.some.injEq]
 apply Array.ext
 ·simpa using hs
 ·intro i h1 h2
  have hi : i < zs.length := by simpa using h2
  obtain ⟨v, hv, hr⟩ := qEZ hg h (i := i) (c := .int k zs[i]) (by simp [hi])
  simp only [Rel] at hr
  subst hr
  rw [qiU hC, Array.getElem?_eq_getElem h1, Option.some.injEq] at hv
  simpa using hv
theorem qLa (w : World) (q : Nat) (os : Array Obj) : RowKit.Below w.heap.size w (Sort.grow (w.drewN q) os) :=
 ⟨rfl, rfl, rfl, by simp [Sort.grow, World.drewN], fun i hi => by
  show ((w.drewN q).heap ++ os)[i]? = _
  rw [Array.getElem?_append_left (by show i < w.heap.size; omega)]
  rfl⟩
def qti : Ent := fun a h => match a, h with
 | [.int .i64 n], [] => [(decide (-9223372036854775808 <= n) && decide (n <= 9223372036854775807), .ret (.str (Lib.itoa n)), [])]
 | _, _ => []
theorem qLy : ∀ a h, (qti a h).length <= 1 := by intro a h; unfold qti; split <;> simp
theorem qLz {P : Program} {ρ : Ren} (L : LaysM.n171 P ρ) (hE : qeU P (ρ.f 171)) {g : Nat} (hgg : P.globalNamed "internal/strconv.uint64pow10" = some g) (h1 : Globs.g g = some (Lib.pow10Tab.map (.int .u64))) : qm0 P (ρ.f 171) (gOf qti) := by
 refine qm3 hE fun a h r h' hm w I m vs H hr => ?_
 unfold qti at hm
 split at hm
 ·rename_i n
  simp only [List.mem_singleton, Prod.mk.injEq, eq_comm (a := true), Bool.and_eq_true, decide_eq_true_eq] at hm
  obtain ⟨⟨g0, g1⟩, rfl, rfl⟩ := hm
  simp only [qaQ, Rel] at hr
  obtain ⟨_, _, rfl, rfl, rfl⟩ := hr
  refine (Any.strconv_Itoa L n g0 g1 w (q4f H.glob hgg h1)).mono ?_
  rintro e w' ⟨rfl, k, os, rfl⟩
  refine qeZ H ?_ (by simp [Rel])
  exact qLa _ _ _
 ·cases hm
end Go.Eng
namespace Go.Eng
open Go.Shelf
set_option linter.unusedSectionVars false
theorem qXY {P : Program} {W : World} {n : String} {d : DataW Unit} {r : List (String × DataW Unit)} (h : laidMet P ((n, d) :: r) W) {g : Nat} (hg : P.globalNamed n = some g) {cs : Array Value} (hv : W.var? P n = some cs) (hne : 0 < cs.size) : ∃ e, W.heap[g]? = some (.cells cs e (0, 0)) := by
 obtain ⟨ps, ⟨g0, t0, cs0, f0, p0, q0, hg0, ht0, hv0, hd0, _, e0⟩, _, hrows⟩ := h
 obtain rfl := Option.some.inj (hg.symm.trans hg0)
 obtain rfl := Option.some.inj (hv.symm.trans hv0)
 subst e0
 obtain ⟨c, t, hc⟩ := (hrows g 0 (by
  simp only [MemPlace.row, List.mem_append]
  exact .inl (.inl (by simp; omega)))).1
 unfold World.var? at hv
 rw [hg, Option.bind_some, hc] at hv
 cases hv
 exact ⟨t, hc⟩
def qLg (W : World) (I : Imm) (g : Nat) (cs : List AV) : Prop := ∃ (C : Array Value) (e : TypeId), W.heap[g]? = some (Obj.cells C e (0, 0)) /\ C.size = cs.length /\ ∀ (i : Nat) (c : AV), cs[i]? = some c -> qbT c = true /\ ∃ v, C[i]? = some v /\ Rel W I c m0 v
theorem qpv {P : Program} {W : World} {I : Imm} {n : String} {k : IntKind} {zs : List Int} {r : List (String × DataW Unit)} (h : laidMet P ((n, Lib.tabData k zs) :: r) W) {g : Nat} {t e : TypeId} {m : Nat}
  (hg : P.globalNamed n = some g) (hty : (P.globals[g]?).map (·.type) = some t) (ht : P.underlying t = some (.array m e)) (he : P.underlying e = some (.int k)) (hce : P.cellsOf e = 1) (hct : P.cellsOf t = m) (hz : 0 < zs.length) : qLg W I g (zs.map (.int k)) := by
 have hv := Lib.tabIs_of_head hg hty ht he hce hct h
 unfold Lib.TabIs at hv
 obtain ⟨e', hC⟩ := qXY h hg hv (by simpa using hz)
 refine ⟨_, e', hC, by simp, fun i c hc => ?_⟩
 rw [List.getElem?_map, Option.map_eq_some_iff] at hc
 obtain ⟨z, hz, rfl⟩ := hc
 exact ⟨rfl, .int k z, by simp [hz], by simp [Rel]⟩
theorem qpu {P : Program} {W : World} {I : Imm} {n nm : String} {text : List UInt8} {r : List (String × DataW Unit)} {g : Nat} {ti tp te ts : TypeId} {ms : Array (String × TypeId)} {f : Field}
  (h : laidMet P ((n, .iface nm (.ptr (.agg [.lit (.string text)]))) :: r) W)
  (hg : P.globalNamed n = some g) (ht : (P.globals[g]?).map (·.type) = some ti) (hi : P.underlying ti = some (.interface ms)) (hrow : ∀ u, P.typeName? 3 u = some nm -> u = tp)
  (hp : P.underlying tp = some (.pointer te)) (he : P.underlying te = some (.struct #[f])) (hft : f.type = ts) (hfo : f.offset = 0) (hs : P.underlying ts = some .string) (hc : P.cellsOf te = 1) (hcs : P.cellsOf ts = 1) : qLg W I g [qVZ tp] := by
 obtain ⟨a, s, hv, hcell, _, _⟩ := laid_sentinel h hg ht hi hrow hp he hft hfo hs hc hcs
 obtain ⟨e', hC⟩ := qXY h hg hv (by simp)
 refine ⟨_, e', hC, by simp, fun i c hi => ?_⟩
 have hi0 : i = 0 /\ c = qVZ tp := by
  cases i with
  | zero => simp at hi; exact ⟨rfl, hi.symm⟩
  | succ i => simp at hi
 obtain ⟨rfl, rfl⟩ := hi0
 refine ⟨rfl, _, rfl, ?_⟩
 obtain ⟨b, o, sp⟩ := a
 have hsp : sp = none := by
  cases sp with
  | none => rfl
  | some x =>
   simp only [World.cell?, Option.isSome_some, if_true] at hcell
   split at hcell <;> cases hcell
 subst hsp
 simp only [qVZ, Rel]
 exact ⟨_, rfl, b, o, rfl, by simp [qTX]⟩
theorem q1s [Globs] {W : World} {I0 : Imm} (h : ∀ g cs, Globs.g g = some cs -> qLg W (fun b o => I0 b o \/ ∃ cs, Globs.g b = some cs /\ o < cs.length) g cs) : GlobAt W (fun b o => I0 b o \/ ∃ cs, Globs.g b = some cs /\ o < cs.length) := by
 intro g cs hg
 obtain ⟨C, e, hC, hsz, hall⟩ := h g cs hg
 refine ⟨qe2.2 fun i c hc => ?_, C, e, hC, hsz⟩
 obtain ⟨h1, v, hv, hr⟩ := hall i c hc
 refine ⟨.inr ⟨cs, hg, by rw [Nat.zero_add]; exact (List.getElem?_eq_some_iff.1 hc).1⟩, h1, v, ?_, hr⟩
 rw [Nat.zero_add]
 exact (qiU hC).trans hv
theorem q1t [Globs] {W : World} {I0 I : Imm} (h : ∀ g cs, Globs.g g = some cs -> qLg W I g cs) (h0 : ∀ b o, I0 b o -> b < W.heap.size) : ∀ b o, (I0 b o \/ ∃ cs, Globs.g b = some cs /\ o < cs.length) -> b < W.heap.size := by
 rintro b o (hb | ⟨cs, hg, _⟩)
 ·exact h0 b o hb
 ·obtain ⟨C, e, hC, _⟩ := h b cs hg
  exact (Array.getElem?_eq_some_iff.1 hC).1
end Go.Eng
namespace Go.Eng
open Go.Proofs
set_option linter.unusedSectionVars false
variable [Globs]
def qfs (x : Int) : Bool := decide (0 <= x) && decide (x < 18446744073709551616)
def qs8 : Ent := fun a h => match a, h with
 | [.int .u64 x, .int .u64 y, .int .u64 c], [] => [(qfs x && qfs y && (decide (0 <= c) && decide (c <= 1)), .ret (.tup [.int .u64 ((x + y + c) % 18446744073709551616), .int .u64 ((x + y + c) / 18446744073709551616)]), [])]
 | _, _ => []
theorem qLh : ∀ a h, (qs8 a h).length <= 1 := by intro a h; unfold qs8; split <;> simp
def qtm : Ent := fun a h => match a, h with
 | [.int .u64 x, .int .u64 y, .int .u64 c], [] => [(qfs x && qfs y && (decide (0 <= c) && decide (c <= 1)), .ret (.tup [.int .u64 ((x - y - c) % 18446744073709551616), .int .u64 (if x < y + c then 1 else 0)]), [])]
 | _, _ => []
theorem qL0 : ∀ a h, (qtm a h).length <= 1 := by intro a h; unfold qtm; split <;> simp
structure ExtIs (P : Program) (f : Nat) (e : Array Value -> Sem Value) : Prop where
 is : ∃ fn, P.funcs[f]? = some fn /\ (fn.name == "runtime.NumGoroutine") = false /\ fn.body.isNone = true /\ Extern.findNext fn = none /\ Extern.find fn = some e
theorem ExtIs.run {P : Program} {f : Nat} {e : Array Value -> Sem Value} (h : ExtIs P f e) (args : Array Value) (w : World) : (callFunc f args).run P w = ((e args).run P w).andThen fun v w' => .ok (.value v) w' := by
 obtain ⟨fn, h1, h2, h3, h4, h5⟩ := h.is
 exact run_callFunc_extern h1 h2 h3 h4 h5 args w
theorem qLi {P : Program} {f : Nat} (hE : ExtIs P f add64Entry) : qm0 P f (gOf qs8) := by
 intro a h r h' hg w I m vs H hnm hr
 unfold gOf at hg
 rw [Option.map_eq_some_iff] at hg
 obtain ⟨⟨b, q⟩, hq, rfl⟩ := hg
 have hb := List.find?_some hq
 have hm := List.mem_of_find?_eq_some hq
 simp only at hb
 subst hb
 unfold qs8 at hm
 split at hm
 ·rename_i x y c
  simp only [List.mem_singleton, Prod.mk.injEq, eq_comm (a := true), Bool.and_eq_true, decide_eq_true_eq, qfs] at hm
  obtain ⟨⟨⟨⟨x0, x1⟩, y0, y1⟩, c0, c1⟩, rfl, rfl⟩ := hm
  simp only [qaQ, Rel] at hr
  obtain ⟨_, _, rfl, rfl, _, _, rfl, rfl, _, _, rfl, rfl, rfl⟩ := hr
  refine .inr ⟨.tuple #[.int .u64 ((x + y + c) % 18446744073709551616), .int .u64 ((x + y + c) / 18446744073709551616)], ?_, ?_⟩
  ·rw [hE.run, run_add64 x y c x0 y0 c0 c1]
   rfl
  ·refine qeZ H (RowKit.Below.refl _ _) ?_
   simp only [Rel, qaQ]
   exact ⟨_, rfl, _, _, rfl, rfl, _, _, rfl, rfl, rfl⟩
 ·cases hm
theorem qL1 {P : Program} {f : Nat} (hE : ExtIs P f sub64Entry) : qm0 P f (gOf qtm) := by
 intro a h r h' hg w I m vs H hnm hr
 unfold gOf at hg
 rw [Option.map_eq_some_iff] at hg
 obtain ⟨⟨b, q⟩, hq, rfl⟩ := hg
 have hb := List.find?_some hq
 have hm := List.mem_of_find?_eq_some hq
 simp only at hb
 subst hb
 unfold qtm at hm
 split at hm
 ·rename_i x y c
  simp only [List.mem_singleton, Prod.mk.injEq, eq_comm (a := true), Bool.and_eq_true, decide_eq_true_eq, qfs] at hm
  obtain ⟨⟨⟨⟨x0, x1⟩, y0, y1⟩, c0, c1⟩, rfl, rfl⟩ := hm
  simp only [qaQ, Rel] at hr
  obtain ⟨_, _, rfl, rfl, _, _, rfl, rfl, _, _, rfl, rfl, rfl⟩ := hr
  obtain ⟨x, rfl⟩ : ∃ n : Nat, x = (n : Int) := ⟨x.toNat, by omega⟩
  obtain ⟨y, rfl⟩ : ∃ n : Nat, y = (n : Int) := ⟨y.toNat, by omega⟩
  obtain ⟨c, rfl⟩ : ∃ n : Nat, c = (n : Int) := ⟨c.toNat, by omega⟩
  refine .inr ⟨.tuple #[.int .u64 (((x : Int) - y - c) % 18446744073709551616), .int .u64 (if (x : Int) < y + c then 1 else 0)], ?_, ?_⟩
  ·rw [hE.run, run_sub64 x y c (by omega)]
   have e1 : (((x + 18446744073709551616 - y - c) % 18446744073709551616 : Nat) : Int) = ((x : Int) - y - c) % 18446744073709551616 := by omega
   have e2 : ((if x < y + c then 1 else 0 : Nat) : Int) = (if (x : Int) < y + c then 1 else 0) := by
    by_cases h : x < y + c
    ·rw [if_pos h, if_pos (by omega)]; rfl
    ·rw [if_neg h, if_neg (by omega)]; rfl
   rw [e1, e2]
   rfl
  ·refine qeZ H (RowKit.Below.refl _ _) ?_
   simp only [Rel, qaQ]
   exact ⟨_, rfl, _, _, rfl, rfl, _, _, rfl, rfl, rfl⟩
 ·cases hm
end Go.Eng
namespace Go.Eng
open Go.Shelf Go.Proofs
set_option linter.unusedSectionVars false
variable [Globs]
def qtj : Ent := fun a h => match a, h with
 | [.int .u64 x, .int .u64 y], [] => [(qfs x && qfs y, .ret (.tup [.int .u64 (x * y / 18446744073709551616), .int .u64 (x * y % 18446744073709551616)]), [])]
 | _, _ => []
theorem qLF : ∀ a h, (qtj a h).length <= 1 := by intro a h; unfold qtj; split <;> simp
def qLe : Ent := fun a h => match a, h with
 | [.int .u64 x], [] => [(qfs x, .ret (.int .i64 (64 - (Lib.bitLen x.toNat : Int))), [])]
 | _, _ => []
theorem qQ3 : ∀ a h, (qLe a h).length <= 1 := by intro a h; unfold qLe; split <;> simp
theorem qLG {P : Program} {ρ : Ren} (L : Lays.n264 P ρ) (hE : qeU P (ρ.f 264)) : qm0 P (ρ.f 264) (gOf qtj) := by
 refine qm3 hE fun a h r h' hm w I m vs H hr => ?_
 unfold qtj at hm
 split at hm
 ·rename_i x y
  simp only [List.mem_singleton, Prod.mk.injEq, eq_comm (a := true), Bool.and_eq_true, decide_eq_true_eq, qfs] at hm
  obtain ⟨⟨⟨x0, x1⟩, y0, y1⟩, rfl, rfl⟩ := hm
  simp only [qaQ, Rel] at hr
  obtain ⟨_, _, rfl, rfl, _, _, rfl, rfl, rfl⟩ := hr
  obtain ⟨x, rfl⟩ : ∃ n : Nat, x = (n : Int) := ⟨x.toNat, by omega⟩
  obtain ⟨y, rfl⟩ : ∃ n : Nat, y = (n : Int) := ⟨y.toNat, by omega⟩
  refine (Any.bits_Mul64 L x y (by omega) (by omega) w).mono ?_
  rintro e w' ⟨rfl, rfl⟩
  refine qeZ H (RowKit.Below.refl _ _) ?_
  simp only [Rel, qaQ]
  exact ⟨_, rfl, _, _, rfl, by simp, _, _, rfl, by simp, rfl⟩
 ·cases hm
theorem qQ4 {P : Program} {ρ : Ren} (L : Lays.n134 P ρ) (hE : qeU P (ρ.f 134)) : qm0 P (ρ.f 134) (gOf qLe) := by
 refine qm3 hE fun a h r h' hm w I m vs H hr => ?_
 unfold qLe at hm
 split at hm
 ·rename_i x
  simp only [List.mem_singleton, Prod.mk.injEq, eq_comm (a := true), Bool.and_eq_true, decide_eq_true_eq, qfs] at hm
  obtain ⟨⟨x0, x1⟩, rfl, rfl⟩ := hm
  simp only [qaQ, Rel] at hr
  obtain ⟨_, _, rfl, rfl, rfl⟩ := hr
  refine (Any.bits_LeadingZeros64 L x w x0 (by omega)).mono ?_
  rintro e w' ⟨rfl, rfl⟩
  exact qeZ H (RowKit.Below.refl _ _) (by simp [Rel])
 ·cases hm
end Go.Eng
