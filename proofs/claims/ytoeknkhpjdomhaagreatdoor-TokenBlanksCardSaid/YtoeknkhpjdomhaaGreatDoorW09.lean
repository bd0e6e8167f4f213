/- token.Join, walked through the program's text: what it gives, if it is known which tokens are valid. -/
import Derived.Test.YtoeknkhpjdomhaaGreatDoorIP09
import Derived.Test.YtoeknkhpjdomhaaGreatDoorE4
import Derived.Shelf.Lays
import Derived.KernelRfl
import Derived.Shelf.Strings.BuilderK
import Derived.Shelf.Strings.Repeat
import Derived.WalkKit
set_option linter.unusedVariables false
set_option linter.unusedSimpArgs false
set_option linter.unnecessarySimpa false
namespace Go.Proofs
open Go.Shelf
set_option maxRecDepth 100000
def Tryz.lays105_ren : Go.Shelf.Ren := ⟨fun | 99 => 60 | 105 => 32 | 165 => 67 | 166 => 31 | 169 => 35 | 170 => 34 | 206 => 81 | 212 => 66 | 240 => 65 | 241 => 85 | 263 => 83 | 264 => 84 | 276 => 82 | 277 => 101 | n => n, fun | 0 => 0 | 3 => 3 | 4 => 4 | 5 => 5 | 9 => 9 | 20 => 20 | 37 => 49 | 46 => 76 | 51 => 95 | 53 => 98 | 70 => 48 | 72 => 51 | 75 => 53 | 76 => 54 | 80 => 59 | 109 => 77 | 127 => 80 | 146 => 96 | 148 => 99 | 164 => 93 | n => n, fun n => n⟩
theorem Tryz.lays105 : Go.Proofs.Lays.n105 Tryz.prog Tryz.lays105_ren := {
 mixed := by kernel_rfl
 f99 := Tryz.func60.trans (congrArg some (by kernel_rfl))
 f105 := Tryz.func32.trans (congrArg some (by kernel_rfl))
 f165 := Tryz.func67.trans (congrArg some (by kernel_rfl))
 f166 := Tryz.func31.trans (congrArg some (by kernel_rfl))
 f169 := Tryz.func35.trans (congrArg some (by kernel_rfl))
 f170 := Tryz.func34.trans (congrArg some (by kernel_rfl))
 f206 := Tryz.func81.trans (congrArg some (by kernel_rfl))
 f212 := Tryz.func66.trans (congrArg some (by kernel_rfl))
 f240 := Tryz.func65.trans (congrArg some (by kernel_rfl))
 f241 := Tryz.func85.trans (congrArg some (by kernel_rfl))
 f263 := Tryz.func83.trans (congrArg some (by kernel_rfl))
 f264 := Tryz.func84.trans (congrArg some (by kernel_rfl))
 f276 := Tryz.func82.trans (congrArg some (by kernel_rfl))
 f277 := Tryz.func101.trans (congrArg some (by kernel_rfl))
 t0 := Tryz.underlying0
 a0 := Tryz.isAgg0
 z0 := Tryz.sizeOf0
 v0 := Tryz.zeroValue0
 t3 := Tryz.underlying3
 a3 := Tryz.isAgg3
 z3 := Tryz.sizeOf3
 v3 := Tryz.zeroValue3
 t4 := Tryz.underlying4
 a4 := Tryz.isAgg4
 z4 := Tryz.sizeOf4
 v4 := Tryz.zeroValue4
 t5 := Tryz.underlying5
 a5 := Tryz.isAgg5
 z5 := Tryz.sizeOf5
 v5 := Tryz.zeroValue5
 t9 := Tryz.underlying9
 a9 := Tryz.isAgg9
 z9 := Tryz.sizeOf9
 v9 := Tryz.zeroValue9
 t20 := Tryz.underlying20
 a20 := Tryz.isAgg20
 z20 := Tryz.sizeOf20
 v20 := Tryz.zeroValue20
 t37 := Tryz.underlying49
 a37 := Tryz.isAgg49
 z37 := Tryz.sizeOf49
 v37 := Tryz.zeroValue49
 t46 := Tryz.underlying76
 a46 := Tryz.isAgg76
 z46 := Tryz.sizeOf76
 v46 := Tryz.zeroValue76
 t51 := Tryz.underlying95
 a51 := Tryz.isAgg95
 z51 := Tryz.sizeOf95
 v51 := Tryz.zeroValue95
 t53 := Tryz.underlying98
 a53 := Tryz.isAgg98
 z53 := Tryz.sizeOf98
 v53 := Tryz.zeroValue98
 t70 := Tryz.underlying48
 a70 := Tryz.isAgg48
 z70 := Tryz.sizeOf48
 v70 := Tryz.zeroValue48
 t72 := Tryz.underlying51
 a72 := Tryz.isAgg51
 z72 := Tryz.sizeOf51
 v72 := Tryz.zeroValue51
 t75 := Tryz.underlying53
 a75 := Tryz.isAgg53
 z75 := Tryz.sizeOf53
 v75 := Tryz.zeroValue53
 t76 := Tryz.underlying54
 a76 := Tryz.isAgg54
 z76 := Tryz.sizeOf54
 v76 := Tryz.zeroValue54
 t109 := Tryz.underlying77
 a109 := Tryz.isAgg77
 z109 := Tryz.sizeOf77
 v109 := Tryz.zeroValue77
 t127 := Tryz.underlying80
 a127 := Tryz.isAgg80
 z127 := Tryz.sizeOf80
 v127 := Tryz.zeroValue80
 t146 := Tryz.underlying96
 a146 := Tryz.isAgg96
 z146 := Tryz.sizeOf96
 v146 := Tryz.zeroValue96
 t148 := Tryz.underlying99
 a148 := Tryz.isAgg99
 z148 := Tryz.sizeOf99
 v148 := Tryz.zeroValue99
 t164 := Tryz.underlying93
 a164 := Tryz.isAgg93
 z164 := Tryz.sizeOf93
 v164 := Tryz.zeroValue93 }
def Tryz.lays167_ren : Go.Shelf.Ren := ⟨fun | 167 => 33 | 240 => 65 | 276 => 82 | n => n, fun | 0 => 0 | 4 => 4 | 5 => 5 | 9 => 9 | 20 => 20 | 37 => 49 | 70 => 48 | 72 => 51 | 75 => 53 | 80 => 59 | 164 => 93 | n => n, fun n => n⟩
theorem Tryz.lays167 : Go.Proofs.Lays.n167 Tryz.prog Tryz.lays167_ren := {
 mixed := by kernel_rfl
 f167 := Tryz.func33.trans (congrArg some (by kernel_rfl))
 f240 := Tryz.func65.trans (congrArg some (by kernel_rfl))
 f276 := Tryz.func82.trans (congrArg some (by kernel_rfl))
 t0 := Tryz.underlying0
 a0 := Tryz.isAgg0
 z0 := Tryz.sizeOf0
 v0 := Tryz.zeroValue0
 t4 := Tryz.underlying4
 a4 := Tryz.isAgg4
 z4 := Tryz.sizeOf4
 v4 := Tryz.zeroValue4
 t5 := Tryz.underlying5
 a5 := Tryz.isAgg5
 z5 := Tryz.sizeOf5
 v5 := Tryz.zeroValue5
 t9 := Tryz.underlying9
 a9 := Tryz.isAgg9
 z9 := Tryz.sizeOf9
 v9 := Tryz.zeroValue9
 t20 := Tryz.underlying20
 a20 := Tryz.isAgg20
 z20 := Tryz.sizeOf20
 v20 := Tryz.zeroValue20
 t37 := Tryz.underlying49
 a37 := Tryz.isAgg49
 z37 := Tryz.sizeOf49
 v37 := Tryz.zeroValue49
 t70 := Tryz.underlying48
 a70 := Tryz.isAgg48
 z70 := Tryz.sizeOf48
 v70 := Tryz.zeroValue48
 t72 := Tryz.underlying51
 a72 := Tryz.isAgg51
 z72 := Tryz.sizeOf51
 v72 := Tryz.zeroValue51
 t75 := Tryz.underlying53
 a75 := Tryz.isAgg53
 z75 := Tryz.sizeOf53
 v75 := Tryz.zeroValue53
 t164 := Tryz.underlying93
 a164 := Tryz.isAgg93
 z164 := Tryz.sizeOf93
 v164 := Tryz.zeroValue93 }
end Go.Proofs
namespace Go.Proofs.H09
open Go Go.Eng Go.Tk Go.Proofs Go.RowKit Go.Shelf
set_option maxRecDepth 100000
theorem bx : Builder.Extra Tryz.prog Tryz.lays105_ren where
 sizeBuilder := by kernel_rfl
 liesBuilder := by kernel_rfl
 t5 := Tryz.underlying5
 a5 := Tryz.isAgg5
 z5 := Tryz.sizeOf5
 v5 := Tryz.zeroValue5
 infoByte := by kernel_rfl
 cellsByte := by kernel_rfl
 sizeByte := by kernel_rfl
 neB5 := by decide
theorem bx' : Builder.Extra Tryz.prog Tryz.lays167_ren where
 sizeBuilder := by kernel_rfl
 liesBuilder := by kernel_rfl
 t5 := Tryz.underlying5
 a5 := Tryz.isAgg5
 z5 := Tryz.sizeOf5
 v5 := Tryz.zeroValue5
 infoByte := by kernel_rfl
 cellsByte := by kernel_rfl
 sizeByte := by kernel_rfl
 neB5 := by decide
theorem quF (c : Nat) (w : World) (hc : c ≤ 1000000) : Calls Tryz.prog 32 #[.string ⟨#[10]⟩, .int .i64 c] w fun e w' => e = .returned (.string ⟨(List.replicate c 10).toArray⟩) ∧ Below w.heap.size w w' := by
 have h := Any.strings_Repeat Tryz.lays105 bx ⟨#[10]⟩ c w (by omega) (by show 1 * c ≤ _; omega)
 have e : ∀ c, Lib.repeatL (⟨#[10]⟩ : ByteArray).data.toList c = List.replicate c 10 := by
  intro c
  induction c with
  | zero => rfl
  | succ c ih => rw [Lib.repeatL, ih, List.replicate_succ]; rfl
 rw [e] at h
 exact h
theorem qgs (B : Nat) (bs s : List UInt8) (w : World) (h : Lib.IsBuilderF 51 5 B B (Lib.byteCells bs) w) (hl : bs.length + s.length ≤ 140737488355328) (hB : B ≤ w.heap.size) :
  Calls Tryz.prog 31 #[.pointer (some ⟨B, 0, none⟩), .string ⟨s.toArray⟩] w fun e w' => e = .returned (.tuple #[.int .i64 s.length, .nilIface]) ∧ Lib.IsBuilderF 51 5 B B (Lib.byteCells (bs ++ s)) w' ∧ Below B w w' ∧ Lib.OthersKept 5 (some B) w w' := by
 have hsz : (⟨s.toArray⟩ : ByteArray).size = s.length := by simp [ByteArray.size]
 refine (Any.Builder_WriteString_k { Tryz.lays105 with } bx B B (Lib.byteCells bs) ⟨s.toArray⟩ w h (by rw [Lib.byteCells_length, hsz]; exact hl) hB).mono ?_
 rintro e w' ⟨rfl, h1, h2, h3⟩
 refine ⟨by rw [hsz], ?_, h2, h3⟩
 rw [Lib.byteCells_append]
 rw [Lib.strCells_eq] at h1
 exact .inr h1
theorem qCo (B : Nat) (bs : List UInt8) (c : UInt8) (w : World) (h : Lib.IsBuilderF 51 5 B B (Lib.byteCells bs) w) (hl : bs.length + 1 ≤ 140737488355328) (hB : B ≤ w.heap.size) :
  Calls Tryz.prog 33 #[.pointer (some ⟨B, 0, none⟩), .int .u8 c.toNat] w fun e w' => e = .returned .nilIface ∧ Lib.IsBuilderF 51 5 B B (Lib.byteCells (bs ++ [c])) w' ∧ Below B w w' ∧ Lib.OthersKept 5 (some B) w w' := by
 refine (Any.Builder_WriteByte_k Tryz.lays167 bx' B B (Lib.byteCells bs) c.toNat w h (by rw [Lib.byteCells_length]; exact hl) hB).mono ?_
 rintro e w' ⟨rfl, h1, h2, h3⟩
 refine ⟨rfl, ?_, h2, h3⟩
 rw [Lib.byteCells_append]
 exact .inr h1
theorem qzC (B : Nat) (bs : List UInt8) (w : World) (h : Lib.IsBuilderF 51 5 B B (Lib.byteCells bs) w) : Calls Tryz.prog 34 #[.pointer (some ⟨B, 0, none⟩)] w fun e w' => e = .returned (.int .i64 bs.length) ∧ w' = w := by
 have := Any.Builder_Len_f { Tryz.lays105 with } B B (Lib.byteCells bs) w h
 rw [Lib.byteCells_length] at this
 exact this
theorem qCp (B : Nat) (bs : List UInt8) (w : World) (h : Lib.IsBuilderF 51 5 B B (Lib.byteCells bs) w) (hB : B ≤ w.heap.size) : Calls Tryz.prog 35 #[.pointer (some ⟨B, 0, none⟩)] w fun e w' => e = .returned (.string ⟨bs.toArray⟩) ∧ Below B w w' := by
 refine (Any.Builder_String_any_k { Tryz.lays105 with } bx B B bs w h hB).mono ?_
 rintro e w' ⟨rfl, _, h2, _⟩
 exact ⟨rfl, h2⟩
theorem qp7 {B : Nat} {bs : List Value} {w w' : World} (h : Lib.IsBuilderF 51 5 B B bs w) (hb : Below w.heap.size w w') : Lib.IsBuilderF 51 5 B B bs w' := by
 have key : ∀ p, Lib.BuilderAtF 51 5 B B p bs w → Lib.BuilderAtF 51 5 B B p bs w' := by
  intro p h
  have hlt := h.lt
  obtain ⟨hB, v, hbk, hown, hne⟩ := h
  exact ⟨hB, v, (hb.block _ hlt).trans hbk, hown.kept (row := none) ⟨hb.os, hb.tape, hb.output, hb.size, fun k hk _ => hb.block k hk⟩ (by cases hv : v.ownBlock <;> simp), hne⟩
 exact h.elim (fun x => .inl (key _ x)) (fun x => .inr (key _ x))
theorem qti (c : Int) (h0 : 0 ≤ c) (w : World) (hc : c ≤ 1000000) : Calls Tryz.prog 32 #[.string ⟨#[10]⟩, .int .i64 c] w fun e w' => e = .returned (.string ⟨(List.replicate c.toNat 10).toArray⟩) ∧ Below w.heap.size w w' := by
 have := quF c.toNat w (by omega)
 rw [Int.toNat_of_nonneg h0] at this
 exact this
def qC8 (l : List Tok) (b o : Nat) (w : World) : Prop := ∀ (i : Nat) (h : i < l.length), w.cell? ⟨b, o + i * 3, none⟩ = some (.int .i64 l[i].kind) ∧ w.cell? ⟨b, o + i * 3 + 1, none⟩ = some (.int .i64 l[i].line) ∧ w.cell? ⟨b, o + i * 3 + 2, none⟩ = some (.string ⟨l[i].text.toArray⟩)
def qzA (t : Tok) : Value := .agg #[.int .i64 t.kind, .int .i64 t.line, .string ⟨t.text.toArray⟩]
set_option maxHeartbeats 1000000 in
theorem qrP {call : qaF} {l : List Tok} {x : Bs × Int} (hb : qsW l = true) (hx : qfB call 30 l = some x) (w : World) (p : Option Addr) (b o cap : Nat) (hp : 0 < l.length → p = some ⟨b, o, none⟩) (hbw0 : 0 < l.length → b < w.heap.size) (ht : qC8 l b o w)
    (hV : ∀ t ∈ l, ∀ q, vO call 30 t = some q → ∀ wr, Below w.heap.size w wr → Calls Tryz.prog 30 #[qzA t] wr fun e w' => e = .returned (.bool q) ∧ Below wr.heap.size wr w') :
    Calls Tryz.prog 18 #[.slice p l.length cap] w fun e w' => e = .returned (.tuple #[.string ⟨x.1.toArray⟩, .int .i64 x.2]) ∧ Below w.heap.size w w' := by
  have hlen : l.length ≤ 1000000 := by
    simp only [qsW, Bool.and_eq_true, decide_eq_true_eq] at hb; exact hb.1
  have hrng : ∀ t ∈ l, t.text.length ≤ 1000000 ∧ -9223372036854775808 ≤ t.line ∧ t.line ≤ 9223372036854775807 := by
    intro t ht
    simp only [qsW, Bool.and_eq_true, decide_eq_true_eq, List.all_eq_true] at hb
    exact hb.2 t ht
  go_enter Tryz.func18, Tryz.ntmps18
  go_wp2
  go_loopw [4, 13] (fun n i wr => ∃ (k : Nat) (z : Int), k ≤ l.length ∧ i = .int .i64 k ∧ n = .int .i64 z ∧ Below w.heap.size w wr ∧ qmj call 30 z (l.drop k) = qmj call 30 1 l) (fun _ i _ => l.length - (Lib.intOf i).toNat)
  case atStart => exact ⟨0, 1, Nat.zero_le _, rfl, rfl, Below.refl _ _, rfl⟩
  case round =>
    obtain ⟨k, z, hk, rfl, rfl, hbl, hck⟩ := hrel
    by_cases hlt : k < l.length
    · have hbw := hbw0 (by omega)
      obtain rfl := hp (by omega)
      have hdr : l.drop k = l[k] :: l.drop (k + 1) := (List.getElem_cons_drop hlt).symm
      obtain ⟨t0, t1, t2⟩ := ht k hlt
      have c0 : wr.cell? ⟨b, o + k * 3, none⟩ = some (.int .i64 l[k].kind) := by simp only [World.cell?]; rw [hbl.block b hbw]; exact t0
      have c1 : wr.cell? ⟨b, o + k * 3 + 1, none⟩ = some (.int .i64 l[k].line) := by simp only [World.cell?]; rw [hbl.block b hbw]; exact t1
      have c2 : wr.cell? ⟨b, o + k * 3 + 2, none⟩ = some (.string ⟨l[k].text.toArray⟩) := by simp only [World.cell?]; rw [hbl.block b hbw]; exact t2
      obtain ⟨t, htl⟩ : ∃ t, l[k] = t := ⟨_, rfl⟩
      rw [htl] at c0 c1 c2 hdr
      have hmem : t ∈ l := by rw [← htl]; exact List.getElem_mem hlt
      rw [hdr] at hck
      simp only [qmj] at hck
      have hba : Below w.heap.size w (wr.alloc (.cells #[.int .i64 t.kind, .int .i64 t.line, .string ⟨t.text.toArray⟩] 40)) := hbl.alloc hbl.size _
      cases hv : vO call 30 t with
      | none =>
        rw [hv] at hck
        unfold qfB at hx
        rw [← hck] at hx; cases hx
      | some q =>
        have cV := hV t hmem q hv
        rw [hv] at hck
        cases q with
        | false =>
          have hx0 : x = ([], 1) := by
            unfold qfB at hx
            rw [← hck] at hx; cases hx; rfl
          subst hx0
          go_wp2_with (go_at_call 30; refine (cV _ hba).mono ?_)
          rintro e w1 rfl hb1
          have hb1 : Below (wr.heap.size + 1) (wr.alloc (.cells #[.int .i64 t.kind, .int .i64 t.line, .string ⟨t.text.toArray⟩] 40)) w1 := hb1
          go_wp2
          go_ret2
          exact ⟨rfl, hba.trans (hb1.mono (by have := hbl.size; omega))⟩
        | true =>
          go_wp2_with (go_at_call 30; refine (cV _ hba).mono ?_)
          rintro e w1 rfl hb1
          have hb1 : Below (wr.heap.size + 1) (wr.alloc (.cells #[.int .i64 t.kind, .int .i64 t.line, .string ⟨t.text.toArray⟩] 40)) w1 := hb1
          have d1 : w1.cell? ⟨wr.heap.size, 1, none⟩ = some (.int .i64 t.line) := by
            simp only [World.cell?]
            rw [hb1.block _ (Nat.lt_succ_self _), heap_alloc_new]
            rfl
          go_wp2
          · have hlt2 : t.line < z := by assumption
            simp only [if_pos hlt2] at hck
            have hx0 : x = ([], 1) := by
              unfold qfB at hx
              rw [← hck] at hx; cases hx; rfl
            subst hx0
            go_ret2
            exact ⟨rfl, hba.trans (hb1.mono (by have := hbl.size; omega))⟩
          · have hge2 : ¬ t.line < z := by omega
            simp only [if_neg hge2] at hck
            go_roundw
            case rel => exact ⟨k + 1, t.line, by omega, by simp, rfl, hba.trans (hb1.mono (by have := hbl.size; omega)), hck⟩
            case measure => simp [Lib.intOf]; omega
    · obtain rfl : k = l.length := by omega
      rw [List.drop_length] at hck
      simp only [qmj] at hck
      have hck1 : qmj call 30 1 l = some true := hck.symm
      have hx1 : x = jnF 0 1 [] l := by
        unfold qfB at hx
        rw [hck1] at hx; cases hx; rfl
      subst hx1
      go_wp2
      have hB0 : Lib.IsBuilderF 51 5 wr.heap.size wr.heap.size (Lib.byteCells []) (wr.alloc (.cells #[.pointer none, .slice none 0 0] 51)) := Lib.IsBuilderF.of (Lib.fresh_isBuilder 51 5 wr)
      have hBl0 : Below w.heap.size w (wr.alloc (.cells #[.pointer none, .slice none 0 0] 51)) := hbl.alloc hbl.size _
      have hBs := hbl.size
      obtain ⟨B, hBe⟩ : ∃ B, wr.heap.size = B := ⟨_, rfl⟩
      rw [hBe] at hB0 hBs ⊢
      go_loopw [4, 31] (fun n i wx => ∃ (k : Nat) (z : Int) (acc : Bs), k ≤ l.length ∧ i = .int .i64 k ∧ n = .int .i64 z ∧ 1 ≤ z ∧ acc.length ≤ 2048 ∧ B < wx.heap.size ∧ Lib.IsBuilderF 51 5 B B (Lib.byteCells acc) wx ∧ Below w.heap.size w wx ∧ qmj call 30 z (l.drop k) = some true ∧ jnF k z acc (l.drop k) = jnF 0 1 [] l) (fun _ i _ => l.length - (Lib.intOf i).toNat)
      case atStart => exact ⟨0, 1, [], Nat.zero_le _, rfl, rfl, by omega, by simp, by simp [hBe], hB0, hBl0, hck1, rfl⟩
      case round =>
        obtain ⟨k, z, acc, hk, rfl, rfl, hz1, hal, hBx, hI, hbx, hck2, hjn⟩ := hrel
        by_cases hlt : k < l.length
        · have hbw := hbw0 (by omega)
          obtain rfl := hp (by omega)
          have hdr : l.drop k = l[k] :: l.drop (k + 1) := (List.getElem_cons_drop hlt).symm
          obtain ⟨t0, t1, t2⟩ := ht k hlt
          have c0 : wr.cell? ⟨b, o + k * 3, none⟩ = some (.int .i64 l[k].kind) := by simp only [World.cell?]; rw [hbx.block b hbw]; exact t0
          have c1 : wr.cell? ⟨b, o + k * 3 + 1, none⟩ = some (.int .i64 l[k].line) := by simp only [World.cell?]; rw [hbx.block b hbw]; exact t1
          have c2 : wr.cell? ⟨b, o + k * 3 + 2, none⟩ = some (.string ⟨l[k].text.toArray⟩) := by simp only [World.cell?]; rw [hbx.block b hbw]; exact t2
          obtain ⟨t, htl⟩ : ∃ t, l[k] = t := ⟨_, rfl⟩
          rw [htl] at c0 c1 c2 hdr
          have hmem : t ∈ l := by rw [← htl]; exact List.getElem_mem hlt
          have hrt := hrng t hmem
          rw [hdr] at hck2 hjn
          obtain ⟨hz2, hck3⟩ : z ≤ t.line ∧ qmj call 30 t.line (l.drop (k + 1)) = some true := by
            simp only [qmj] at hck2
            split at hck2
            · cases hck2
            · cases hck2
            · split at hck2
              · cases hck2
              · exact ⟨by omega, hck2⟩
          clear hck2
          simp only [jnF] at hjn
          by_cases hgap : t.line - z > 2048
          · rw [if_pos hgap] at hjn
            go_wp2
            go_ret2
            rw [← hjn]
            exact ⟨rfl, hbx.alloc hbx.size _⟩
          · rw [if_neg hgap] at hjn
            have cR := qti (t.line - z) (by omega) (wr.alloc (.cells #[.int .i64 t.kind, .int .i64 t.line, .string ⟨t.text.toArray⟩] 40)) (by omega)
            have hI0 : Lib.IsBuilderF 51 5 B B (Lib.byteCells acc) (wr.alloc (.cells #[.int .i64 t.kind, .int .i64 t.line, .string ⟨t.text.toArray⟩] 40)) := hI.alloc _
            have hB0 : Below w.heap.size w (wr.alloc (.cells #[.int .i64 t.kind, .int .i64 t.line, .string ⟨t.text.toArray⟩] 40)) := hbx.alloc hbx.size _
            have hT0 : (wr.alloc (.cells #[.int .i64 t.kind, .int .i64 t.line, .string ⟨t.text.toArray⟩] 40)).heap[wr.heap.size]? = some (.cells #[.int .i64 t.kind, .int .i64 t.line, .string ⟨t.text.toArray⟩] 40 (0, 0)) := heap_alloc_new _ _
            have hWs : wr.heap.size < (wr.alloc (.cells #[.int .i64 t.kind, .int .i64 t.line, .string ⟨t.text.toArray⟩] 40)).heap.size := by simp
            have hstep : ∀ W1, Below (wr.alloc (.cells #[.int .i64 t.kind, .int .i64 t.line, .string ⟨t.text.toArray⟩] 40)).heap.size (wr.alloc (.cells #[.int .i64 t.kind, .int .i64 t.line, .string ⟨t.text.toArray⟩] 40)) W1 →
                Lib.IsBuilderF 51 5 B B (Lib.byteCells acc) W1 ∧ Below w.heap.size w W1 ∧ W1.heap[wr.heap.size]? = some (.cells #[.int .i64 t.kind, .int .i64 t.line, .string ⟨t.text.toArray⟩] 40 (0, 0)) ∧ B ≤ W1.heap.size := by
              intro W1 h1
              refine ⟨qp7 hI0 h1, hB0.trans (h1.mono (by have := hB0.size; exact Nat.le_trans hbx.size (Nat.le_of_lt hWs))), (h1.block _ hWs).trans hT0, ?_⟩
              have := h1.size
              omega
            have cS : ∀ W1, Below (wr.alloc (.cells #[.int .i64 t.kind, .int .i64 t.line, .string ⟨t.text.toArray⟩] 40)).heap.size (wr.alloc (.cells #[.int .i64 t.kind, .int .i64 t.line, .string ⟨t.text.toArray⟩] 40)) W1 → _ := fun W1 h1 => qgs B acc (List.replicate (t.line - z).toNat 10) W1 (hstep W1 h1).1 (by simp; omega) (hstep W1 h1).2.2.2
            by_cases hk0 : ¬ 0 < k
            · have hsp : ¬ (k > 0 ∧ t.line = z) := fun h => by omega
              go_wp2_with (first
                | (go_at_call 32; refine cR.mono ?_; rintro e W1 ⟨rfl, h1⟩; clear cR; obtain ⟨hI1, hB1, hT1, hBW1⟩ := hstep _ h1)
                | (go_at_call 31
                   refine (cS _ h1).mono ?_
                   rintro e W2 ⟨rfl, hI2, hb2, hk2⟩
                   clear cS
                   have hT2 : W2.heap[wr.heap.size]? = some (.cells #[.int .i64 t.kind, .int .i64 t.line, .string ⟨t.text.toArray⟩] 40 (0, 0)) := hk2 _ _ hT1 (by simp; omega) (by intro c fz; simp)
                   have hBW2 : B ≤ W2.heap.size := Nat.le_trans hBW1 hb2.size
                   have hB2 : Below w.heap.size w W2 := hB1.trans (hb2.mono hBs)
                   have d2 : W2.cell? ⟨wr.heap.size, 2, none⟩ = some (.string ⟨t.text.toArray⟩) := by rw [Lib.cell_of_heap hT2]; rfl
                   have cW := qgs B (acc ++ List.replicate (t.line - z).toNat 10) t.text W2 hI2 (by simp; omega) hBW2)
                | (go_at_call 31
                   refine cW.mono ?_
                   rintro e W4 ⟨rfl, hI4, hb4, hk4⟩
                   clear cW
                   have hT4 : W4.heap[wr.heap.size]? = some (.cells #[.int .i64 t.kind, .int .i64 t.line, .string ⟨t.text.toArray⟩] 40 (0, 0)) := hk4 _ _ hT2 (by simp; omega) (by intro c fz; simp)
                   have hBW4 : B ≤ W4.heap.size := Nat.le_trans hBW2 hb4.size
                   have hB4 : Below w.heap.size w W4 := hB2.trans (hb4.mono hBs)
                   have d4 : W4.cell? ⟨wr.heap.size, 1, none⟩ = some (.int .i64 t.line) := by rw [Lib.cell_of_heap hT4]; rfl
                   have hacc : acc ++ List.replicate (t.line - z).toNat 10 ++ (if k > 0 ∧ t.line = z then [32] else []) ++ t.text = acc ++ List.replicate (t.line - z).toNat 10 ++ t.text := by
                     rw [if_neg hsp]; simp
                   rw [hacc] at hjn
                   clear hacc
                   generalize acc ++ List.replicate (t.line - z).toNat 10 ++ t.text = acc2 at hI4 hjn
                   have cL := qzC B acc2 W4 hI4)
                | (go_at_call 34; refine cL.mono ?_; clear cL; rintro e w' ⟨rfl, hw⟩; rw [hw]))
              · have hbig : 2048 < acc2.length := by omega
                rw [if_pos hbig] at hjn
                go_ret2
                rw [← hjn]
                exact ⟨rfl, hB4⟩
              · have hsm : ¬ 2048 < acc2.length := by omega
                rw [if_neg hsm] at hjn
                go_roundw
                case rel => exact ⟨k + 1, t.line, acc2, by omega, by simp, rfl, by omega, by omega, by have := (Array.getElem?_eq_some_iff.1 hT4).1; omega, hI4, hB4, hck3, hjn⟩
                case measure => simp [Lib.intOf]; omega
            · have hk1 : 0 < k := by omega
              clear hk0
              by_cases hgz : t.line - z = 0
              · have hle : t.line ≤ z := by omega
                clear hgz
                go_wp2_with (first
                  | (go_at_call 32; refine cR.mono ?_; rintro e W1 ⟨rfl, h1⟩; clear cR; obtain ⟨hI1, hB1, hT1, hBW1⟩ := hstep _ h1)
                  | (go_at_call 31
                     refine (cS _ h1).mono ?_
                     rintro e W2 ⟨rfl, hI2, hb2, hk2⟩
                     clear cS
                     have hT2 : W2.heap[wr.heap.size]? = some (.cells #[.int .i64 t.kind, .int .i64 t.line, .string ⟨t.text.toArray⟩] 40 (0, 0)) := hk2 _ _ hT1 (by simp; omega) (by intro c fz; simp)
                     have hBW2 : B ≤ W2.heap.size := Nat.le_trans hBW1 hb2.size
                     have hB2 : Below w.heap.size w W2 := hB1.trans (hb2.mono hBs)
                     have cB := qCo B _ 32 W2 hI2 (by simp; omega) hBW2)
                  | (go_at_call 33
                     refine cB.mono ?_
                     rintro e W3 ⟨rfl, hI3, hb3, hk3⟩
                     clear cB
                     have hT3 : W3.heap[wr.heap.size]? = some (.cells #[.int .i64 t.kind, .int .i64 t.line, .string ⟨t.text.toArray⟩] 40 (0, 0)) := hk3 _ _ hT2 (by simp; omega) (by intro c fz; simp)
                     have hBW3 : B ≤ W3.heap.size := Nat.le_trans hBW2 hb3.size
                     have hB3 : Below w.heap.size w W3 := hB2.trans (hb3.mono hBs)
                     have d2 : W3.cell? ⟨wr.heap.size, 2, none⟩ = some (.string ⟨t.text.toArray⟩) := by rw [Lib.cell_of_heap hT3]; rfl
                     have cW := qgs B (acc ++ List.replicate (t.line - z).toNat 10 ++ [32]) t.text W3 hI3 (by simp; omega) hBW3)
                  | (go_at_call 31
                     refine cW.mono ?_
                     rintro e W4 ⟨rfl, hI4, hb4, hk4⟩
                     clear cW
                     have hT4 : W4.heap[wr.heap.size]? = some (.cells #[.int .i64 t.kind, .int .i64 t.line, .string ⟨t.text.toArray⟩] 40 (0, 0)) := hk4 _ _ hT3 (by simp; omega) (by intro c fz; simp)
                     have hBW4 : B ≤ W4.heap.size := Nat.le_trans hBW3 hb4.size
                     have hB4 : Below w.heap.size w W4 := hB3.trans (hb4.mono hBs)
                     have d4 : W4.cell? ⟨wr.heap.size, 1, none⟩ = some (.int .i64 t.line) := by rw [Lib.cell_of_heap hT4]; rfl
                     have hacc : acc ++ List.replicate (t.line - z).toNat 10 ++ (if k > 0 ∧ t.line = z then [32] else []) ++ t.text = acc ++ List.replicate (t.line - z).toNat 10 ++ [32] ++ t.text := by
                       rw [if_pos ⟨hk1, by omega⟩]
                     rw [hacc] at hjn
                     clear hacc
                     generalize acc ++ List.replicate (t.line - z).toNat 10 ++ [32] ++ t.text = acc2 at hI4 hjn
                     have cL := qzC B acc2 W4 hI4)
                  | (go_at_call 34; refine cL.mono ?_; clear cL; rintro e w' ⟨rfl, hw⟩; rw [hw]))
                · have hbig : 2048 < acc2.length := by omega
                  rw [if_pos hbig] at hjn
                  go_ret2
                  rw [← hjn]
                  exact ⟨rfl, hB4⟩
                · have hsm : ¬ 2048 < acc2.length := by omega
                  rw [if_neg hsm] at hjn
                  go_roundw
                  case rel => exact ⟨k + 1, t.line, acc2, by omega, by simp, rfl, by omega, by omega, by have := (Array.getElem?_eq_some_iff.1 hT4).1; omega, hI4, hB4, hck3, hjn⟩
                  case measure => simp [Lib.intOf]; omega
              · have hsp : ¬ (k > 0 ∧ t.line = z) := fun h => by omega
                go_wp2_with (first
                  | (go_at_call 32; refine cR.mono ?_; rintro e W1 ⟨rfl, h1⟩; clear cR; obtain ⟨hI1, hB1, hT1, hBW1⟩ := hstep _ h1)
                  | (go_at_call 31
                     refine (cS _ h1).mono ?_
                     rintro e W2 ⟨rfl, hI2, hb2, hk2⟩
                     clear cS
                     have hT2 : W2.heap[wr.heap.size]? = some (.cells #[.int .i64 t.kind, .int .i64 t.line, .string ⟨t.text.toArray⟩] 40 (0, 0)) := hk2 _ _ hT1 (by simp; omega) (by intro c fz; simp)
                     have hBW2 : B ≤ W2.heap.size := Nat.le_trans hBW1 hb2.size
                     have hB2 : Below w.heap.size w W2 := hB1.trans (hb2.mono hBs)
                     have d2 : W2.cell? ⟨wr.heap.size, 2, none⟩ = some (.string ⟨t.text.toArray⟩) := by rw [Lib.cell_of_heap hT2]; rfl
                     have cW := qgs B (acc ++ List.replicate (t.line - z).toNat 10) t.text W2 hI2 (by simp; omega) hBW2)
                  | (go_at_call 31
                     refine cW.mono ?_
                     rintro e W4 ⟨rfl, hI4, hb4, hk4⟩
                     clear cW
                     have hT4 : W4.heap[wr.heap.size]? = some (.cells #[.int .i64 t.kind, .int .i64 t.line, .string ⟨t.text.toArray⟩] 40 (0, 0)) := hk4 _ _ hT2 (by simp; omega) (by intro c fz; simp)
                     have hBW4 : B ≤ W4.heap.size := Nat.le_trans hBW2 hb4.size
                     have hB4 : Below w.heap.size w W4 := hB2.trans (hb4.mono hBs)
                     have d4 : W4.cell? ⟨wr.heap.size, 1, none⟩ = some (.int .i64 t.line) := by rw [Lib.cell_of_heap hT4]; rfl
                     have hacc : acc ++ List.replicate (t.line - z).toNat 10 ++ (if k > 0 ∧ t.line = z then [32] else []) ++ t.text = acc ++ List.replicate (t.line - z).toNat 10 ++ t.text := by
                       rw [if_neg hsp]; simp
                     rw [hacc] at hjn
                     clear hacc
                     generalize acc ++ List.replicate (t.line - z).toNat 10 ++ t.text = acc2 at hI4 hjn
                     have cL := qzC B acc2 W4 hI4)
                  | (go_at_call 34; refine cL.mono ?_; clear cL; rintro e w' ⟨rfl, hw⟩; rw [hw]))
                · have hbig : 2048 < acc2.length := by omega
                  rw [if_pos hbig] at hjn
                  go_ret2
                  rw [← hjn]
                  exact ⟨rfl, hB4⟩
                · have hsm : ¬ 2048 < acc2.length := by omega
                  rw [if_neg hsm] at hjn
                  go_roundw
                  case rel => exact ⟨k + 1, t.line, acc2, by omega, by simp, rfl, by omega, by omega, by have := (Array.getElem?_eq_some_iff.1 hT4).1; omega, hI4, hB4, hck3, hjn⟩
                  case measure => simp [Lib.intOf]; omega
        · obtain rfl : k = l.length := by omega
          rw [List.drop_length] at hjn
          have hjn : (acc, (0 : Int)) = jnF 0 1 [] l := hjn
          have cT := qCp B acc wr hI (Nat.le_of_lt hBx)
          go_wp2_with (go_at_call 35; refine cT.mono ?_; clear cT; rintro e W1 ⟨rfl, h1⟩)
          go_ret2
          rw [← hjn]
          exact ⟨rfl, hbx.trans (h1.mono hBs)⟩
theorem qp5 {w w' : World} {I I' : Imm} {m m' : Names} {h' : Eng.Heap} (A : Aft w w' I I' m m' [] h') : Below w.heap.size w w' :=
 ⟨A.stays.out.1, A.stays.out.2.2, A.stays.out.2.1, A.stays.size, fun k hk => A.frame k hk (by rintro ⟨j, x, L, hj, _⟩; cases hj)⟩
theorem qta {w : World} {I : Imm} {b : Nat} : ∀ {l : List Tok} {o : Nat}, qmn w I 3 (ET l) b o → qC8 l b o w ∧ (0 < l.length → I b o)
 | [], o, _ => ⟨fun i h => absurd h (Nat.not_lt_zero _), fun h => absurd h (Nat.lt_irrefl _)⟩
 | t :: l, o, h => by
  rw [show ET (t :: l) = t.av :: ET l from rfl, qe8] at h
  obtain ⟨_, h1, h2⟩ := h
  have ih := (qta h2).1
  simp only [Tok.av, qaa, qmi, Rel] at h1
  obtain ⟨⟨hI, _, _, q0, rfl⟩, ⟨_, _, _, q1, rfl⟩, ⟨_, _, _, q2, rfl⟩, _⟩ := h1
  refine ⟨fun i hi => ?_, fun _ => hI⟩
  cases i with
  | zero => exact ⟨by simpa [ad] using q0, by simpa [ad] using q1, by simpa [ad] using q2⟩
  | succ i =>
   have := ih i (by simpa using hi)
   rw [show o + (i + 1) * 3 = o + 3 + i * 3 by omega]
   exact this
theorem qzt {w : World} {I : Imm} {sz b o : Nat} {t : Tok} {l : List Tok} (h : qmn w I sz (ET (t :: l)) b o) : sz = 3 := by
 rw [show ET (t :: l) = t.av :: ET l from rfl, qe8] at h
 exact h.1.symm
theorem qzf : qwa Tryz.prog 18 (qeW 30) := by
 intro call hc args h r h' hg w I m vs H hm hr
 obtain ⟨sz, l, x, rfl, rfl, hb, hx, he⟩ := qoL hg
 cases he
 simp only [qam, Rel] at hr
 obtain ⟨_, _, rfl, ⟨a, cap, rfl, hcap, hcells, hz⟩, rfl⟩ := hr
 rw [List.length_map] at hcells
 have hV : ∀ t ∈ l, ∀ q, vO call 30 t = some q → ∀ wr, Below w.heap.size w wr → Calls Tryz.prog 30 #[qzA t] wr fun e w' => e = .returned (.bool q) ∧ Below wr.heap.size wr w' := by
  intro t _ q hq wr hbl
  have hcall : call 30 [t.av] [] = some (.ret (.bool q), []) := by
   unfold vO at hq
   split at hq
   ·rename_i b he; cases hq; exact he
   ·cases hq
  have A := qgu H hbl (I' := I) (fun _ _ h => h) fun _ _ h => .inl h
  have hrun := hc _ _ _ _ _ hcall wr I m [qzA t] A.heap hm (by
   simp only [qam, qzA, Tok.av, Rel]
   exact ⟨_, _, rfl, ⟨_, rfl, _, _, rfl, rfl, _, _, rfl, rfl, _, _, rfl, rfl, rfl⟩, rfl⟩)
  rcases hrun with ⟨_, h⟩ | ⟨v, h, _⟩
  ·refine h.mono ?_
   rintro e w' ⟨I', m', hA, u, rfl, hu⟩
   simp only [Rel] at hu
   subst hu
   exact ⟨rfl, qp5 hA⟩
  ·have he : (callFunc 30 #[qzA t]).run Tryz.prog wr = .ok (.enter 30 #[qzA t]) wr := enters_of Tryz.func30 (by kernel_rfl) rfl #[qzA t] wr
   rw [he] at h; cases h
 refine .inl ⟨⟨_, Tryz.func18, by kernel_rfl, by kernel_rfl⟩, ?_⟩
 have walk : ∀ (p : Option Addr) (b o : Nat), (0 < l.length → p = some ⟨b, o, none⟩) → (0 < l.length → b < w.heap.size) → qC8 l b o w → Calls Tryz.prog 18 #[.slice p l.length cap] w (qtl w I m [] (.ret (.tup [.str x.1, .int .i64 x.2])) []) := by
  intro p b o h1 h2 h3
  refine (qrP hb hx w p b o cap h1 h2 h3 hV).mono ?_
  rintro e w' ⟨rfl, hbl⟩
  refine qbi H hbl ?_
  simp only [Rel, qam]
  exact ⟨_, rfl, _, _, rfl, rfl, _, _, rfl, rfl, rfl⟩
 have hlm : (ET l).length = l.length := List.length_map ..
 rw [hlm]
 cases l with
 | nil => exact walk a 0 0 (fun h => absurd h (Nat.lt_irrefl _)) (fun h => absurd h (Nat.lt_irrefl _)) fun i h => absurd h (Nat.not_lt_zero _)
 | cons t l =>
  rcases hcells with h0 | ⟨b, o, rfl, hE⟩
  ·cases h0
  ·obtain rfl := qzt hE
   obtain ⟨q1, q2⟩ := qta hE
   exact walk _ b o (fun _ => rfl) (fun h => H.old b o (q2 h)) q1
end Go.Proofs.H09
