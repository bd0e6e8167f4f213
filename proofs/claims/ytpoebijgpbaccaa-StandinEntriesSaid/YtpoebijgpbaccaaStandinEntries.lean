/- 'corebanklaw53.StandinEntries' returns true for every input, and each argument reads behind the call as it read before. No condition. -/
import Derived.Test.YtpoebijgpbaccaaJ53
import Derived.Test.YtpoebijgpbaccaaRows
import Derived.ProofKit
set_option linter.unusedVariables false
set_option linter.unusedSimpArgs false
set_option linter.unnecessarySimpa false
namespace Go.Proofs.Ytpoebijgpbaccaa
open Go Go.ChangeShapes Go.WideShapes Go.ChangeAt Go.RowKit Go.Eng

theorem own : ownKnob Try.prog.godebug = none := by kernel_rfl
theorem laid : laidOutB Try.prog = true := by kernel_rfl

theorem read5 : ∀ t ∈ Try.f5.params.toList, Try.prog.readableRec t = true ∧ t < Try.prog.types.size := by
  have h : (Try.f5.params.toList.all fun t => Try.prog.readableRec t && decide (t < Try.prog.types.size)) = true := by kernel_rfl
  intro t ht
  have := List.all_eq_true.1 h t ht
  simpa using this

theorem mem5 : ∀ t ∈ Try.f5.params.toList, t ∈ ([25, 3, 33, 49, 23, 61, 147, 150, 152, 70, 72, 58, 115, 118, 154, 159, 161, 54, 157] : List TypeId) := by
  have h : (Try.f5.params.toList.all fun t => ([25, 3, 33, 49, 23, 61, 147, 150, 152, 70, 72, 58, 115, 118, 154, 159, 161, 54, 157] : List TypeId).contains t) = true := by kernel_rfl
  intro t ht
  simpa using List.all_eq_true.1 h t ht

theorem calls5 {d : Nat} {avs : List AV} (h : FitP (Fit maxLen (shT Try.prog) d) [(true, [.slice 2 true 147, .slice 3 true 150, .slice 4 true 152, .int .i64, .int .i64, .int .i64, .int .i64, .int .i64, .int .i64, .int .i64, .int .i64, .int .i64, .int .i64, .int .i64, .int .i64, .int .i64, .int .i64, .slice 19 true 70, .slice 7 true 72, .slice 10 true 58, .slice 6 true 115, .slice 7 true 118]), (true, [.int .i64, .slice 3 true 61, .slice 3 true 33]), (false, [.int .i64])] avs) : ∃ n, (oracle H53.IP n).1 5 avs [] = some (.ret (.bool true), []) :=
  callO_iff.1 (H53.law5 h)

set_option maxRecDepth 100000 in
theorem lifted5 (os : Os) (started : os.Started) (H : Type) (enc : TypeId × Value → H) :
    ReturnsInHanded {} Try.checked os 5 .any (Rows.standinEntriesSpec.pre6 enc Try.prog Try.f5 Rows.standinEntriesRow.domain false) (Rows.standinEntriesSpec.post enc Try.prog Try.f5 false true false false) := by
  refine returnsInHanded_of_change (C := Try.checked) own started (by kernel_rfl) Try.func5
    (ChangeSpec.witness6 (enc := enc) (C := Try.checked) false ⟨#[], #[.agg #[.slice none 0 0, .slice none 0 0, .slice none 0 0, .int .i64 0, .int .i64 0, .int .i64 0, .int .i64 0, .int .i64 0, .int .i64 0, .int .i64 0, .int .i64 0, .int .i64 0, .int .i64 0, .int .i64 0, .int .i64 0, .int .i64 0, .int .i64 0, .slice none 0 0, .slice none 0 0, .slice none 0 0, .slice none 0 0, .slice none 0 0], .agg #[.int .i64 0, .slice none 0 0, .slice none 0 0], .int .i64 0], []⟩ 8 (by kernel_rfl) (by kernel_rfl) (by kernel_rfl) (by kernel_rfl)) ?_
  intro W base args ds gs before hval0 hW hcnd _
  have hval : ∀ (j : Nat) t v, Try.f5.params[j]? = some t → args[j]? = some v → Value.okWide Try.prog W .any base t v := hval0
  have hW' := hW
  obtain ⟨p, q, hA0, hV, rfl, hfz, hnd⟩ := hW
  have hA : DataW.TrodAll enc Try.prog W 0 (fun _ => true) true Try.f5.params.toList args.toList ds p := hA0
  obtain ⟨dd, avs, hfit, hrel⟩ := args_fit (qs := [25, 3, 33, 49, 23, 61, 147, 150, 152, 70, 72, 58, 115, 118, 154, 159, 161, 54, 157]) (by kernel_rfl) (I := fun b o => MemPlace.cell b o ∈ p) (ps := [(true, [.slice 2 true 147, .slice 3 true 150, .slice 4 true 152, .int .i64, .int .i64, .int .i64, .int .i64, .int .i64, .int .i64, .int .i64, .int .i64, .int .i64, .int .i64, .int .i64, .int .i64, .int .i64, .int .i64, .slice 19 true 70, .slice 7 true 72, .slice 10 true 58, .slice 6 true 115, .slice 7 true 118]), (true, [.int .i64, .slice 3 true 61, .slice 3 true 33]), (false, [.int .i64])]) mem5 (by kernel_rfl) hA (fun j t v ht hv => hval j t v (by simpa using ht) (by simpa using hv)) (fun b o h => h)
  obtain ⟨n, hn⟩ := calls5 hfit
  have hlt := hW'.lt
  have hcall := law_calls H53.progOk (W := W) (fun b o (h : MemPlace.cell b o ∈ p) => hlt _ (List.mem_append_left _ h)) hrel hn
  rw [Try.params5] at hA
  obtain ⟨v0, vs0, d0, ds0, p0, q0, hargs, rfl, rfl, h0, r0⟩ := trodAll_cons hA
  obtain ⟨v1, vs1, d1, ds1, p1, q1, rfl, rfl, rfl, h1, r1⟩ := trodAll_cons r0
  obtain ⟨v2, vs2, d2, ds2, p2, q2, rfl, rfl, rfl, h2, r2⟩ := trodAll_cons r1
  obtain ⟨rfl, rfl, rfl⟩ := trodAll_nil r2
  obtain ⟨rfl, rfl⟩ := trodVars_none hV
  refine hcall.mono fun e W' ⟨he, hb⟩ => ?_
  exact ⟨_, he, law_post laid read5 rfl rfl (by kernel_rfl) rfl rfl rfl hW' hb⟩

theorem StandinEntries_holds : Rows.StandinEntriesSaid :=
  OpenClaim.holds_of_wide 5 Try.f5 rfl rfl rfl rfl rfl rfl rfl ⟨rfl, rfl, rfl, rfl, rfl⟩ rfl rfl rfl rfl rfl (by kernel_rfl) Try.func5 (by kernel_rfl)
    (of_decide_eq_true (by kernel_rfl)) (by unfold Func.isWrapper; first | (rw [if_pos (by decide +kernel)]; kernel_rfl) | (rw [if_neg (by decide +kernel)]; exact ⟨rfl, rfl⟩))
    (fun os started H enc _ => lifted5 os started H enc)
#print axioms StandinEntries_holds

end Go.Proofs.Ytpoebijgpbaccaa
