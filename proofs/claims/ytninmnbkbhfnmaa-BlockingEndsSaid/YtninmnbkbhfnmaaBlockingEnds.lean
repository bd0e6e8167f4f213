/- 'corebanklaw23.BlockingEnds' returns true for every input, and each argument reads behind the call as it read before. No condition. -/
import Derived.Test.YtninmnbkbhfnmaaJ23
import Derived.Test.YtninmnbkbhfnmaaRows
import Derived.ProofKit
set_option linter.unusedVariables false
set_option linter.unusedSimpArgs false
set_option linter.unnecessarySimpa false
namespace Go.Proofs.Ytninmnbkbhfnmaa
open Go Go.ChangeShapes Go.WideShapes Go.ChangeAt Go.RowKit Go.Eng

theorem own : ownKnob Try.prog.godebug = none := by kernel_rfl
theorem laid : laidOutB Try.prog = true := by kernel_rfl

theorem read8 : ∀ t ∈ Try.f8.params.toList, Try.prog.readableRec t = true ∧ t < Try.prog.types.size := by
  have h : (Try.f8.params.toList.all fun t => Try.prog.readableRec t && decide (t < Try.prog.types.size)) = true := by kernel_rfl
  intro t ht
  have := List.all_eq_true.1 h t ht
  simpa using this

theorem mem8 : ∀ t ∈ Try.f8.params.toList, t ∈ ([22, 28, 3, 36] : List TypeId) := by
  have h : (Try.f8.params.toList.all fun t => ([22, 28, 3, 36] : List TypeId).contains t) = true := by kernel_rfl
  intro t ht
  simpa using List.all_eq_true.1 h t ht

theorem calls8 {d : Nat} {avs : List AV} (h : FitP (Fit maxLen (shT Try.prog) d) [(false, [.slice 7 true 28]), (false, [.int .i64]), (true, [.int .i64, .int .i64, .int .i64])] avs) : ∃ n, (oracle H23.IP n).1 8 avs [] = some (.ret (.bool true), []) :=
  callO_iff.1 (H23.law8 h)

set_option maxRecDepth 100000 in
theorem lifted8 (os : Os) (started : os.Started) (H : Type) (enc : TypeId × Value → H) :
    ReturnsInHanded {} Try.checked os 8 .any (Rows.blockingEndsSpec.pre6 enc Try.prog Try.f8 Rows.blockingEndsRow.domain false) (Rows.blockingEndsSpec.post enc Try.prog Try.f8 false true false false) := by
  refine returnsInHanded_of_change (C := Try.checked) own started (by kernel_rfl) Try.func8
    (ChangeSpec.witness6 (enc := enc) (C := Try.checked) false ⟨#[], #[.slice none 0 0, .int .i64 0, .agg #[.int .i64 0, .int .i64 0, .int .i64 0]], []⟩ 8 (by kernel_rfl) (by kernel_rfl) (by kernel_rfl) (by kernel_rfl)) ?_
  intro W base args ds gs before hval0 hW hcnd _
  have hval : ∀ (j : Nat) t v, Try.f8.params[j]? = some t → args[j]? = some v → Value.okWide Try.prog W .any base t v := hval0
  have hW' := hW
  obtain ⟨p, q, hA0, hV, rfl, hfz, hnd⟩ := hW
  have hA : DataW.TrodAll enc Try.prog W 0 (fun _ => true) true Try.f8.params.toList args.toList ds p := hA0
  obtain ⟨dd, avs, hfit, hrel⟩ := args_fit (qs := [22, 28, 3, 36]) (by kernel_rfl) (I := fun b o => MemPlace.cell b o ∈ p) (ps := [(false, [.slice 7 true 28]), (false, [.int .i64]), (true, [.int .i64, .int .i64, .int .i64])]) mem8 (by kernel_rfl) hA (fun j t v ht hv => hval j t v (by simpa using ht) (by simpa using hv)) (fun b o h => h)
  obtain ⟨n, hn⟩ := calls8 hfit
  have hlt := hW'.lt
  have hcall := law_calls H23.progOk (W := W) (fun b o (h : MemPlace.cell b o ∈ p) => hlt _ (List.mem_append_left _ h)) hrel hn
  rw [Try.params8] at hA
  obtain ⟨v0, vs0, d0, ds0, p0, q0, hargs, rfl, rfl, h0, r0⟩ := trodAll_cons hA
  obtain ⟨v1, vs1, d1, ds1, p1, q1, rfl, rfl, rfl, h1, r1⟩ := trodAll_cons r0
  obtain ⟨v2, vs2, d2, ds2, p2, q2, rfl, rfl, rfl, h2, r2⟩ := trodAll_cons r1
  obtain ⟨rfl, rfl, rfl⟩ := trodAll_nil r2
  obtain ⟨rfl, rfl⟩ := trodVars_none hV
  refine hcall.mono fun e W' ⟨he, hb⟩ => ?_
  exact ⟨_, he, law_post laid read8 rfl rfl (by kernel_rfl) rfl rfl rfl hW' hb⟩

theorem BlockingEnds_holds : Rows.BlockingEndsSaid :=
  OpenClaim.holds_of_wide 8 Try.f8 rfl rfl rfl rfl rfl rfl rfl ⟨rfl, rfl, rfl, rfl, rfl⟩ rfl rfl rfl rfl rfl (by kernel_rfl) Try.func8 (by kernel_rfl)
    (of_decide_eq_true (by kernel_rfl)) (by unfold Func.isWrapper; first | (rw [if_pos (by decide +kernel)]; kernel_rfl) | (rw [if_neg (by decide +kernel)]; exact ⟨rfl, rfl⟩))
    (fun os started H enc _ => lifted8 os started H enc)
#print axioms BlockingEnds_holds

end Go.Proofs.Ytninmnbkbhfnmaa
