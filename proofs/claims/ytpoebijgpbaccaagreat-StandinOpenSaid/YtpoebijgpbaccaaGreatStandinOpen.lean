/- 'corebanklaw53.StandinOpen' returns true for every input, and each argument reads behind the call as it read before. No condition. -/
import Derived.Test.YtpoebijgpbaccaaGreatJ53z
import Derived.Test.YtpoebijgpbaccaaGreatRows
import Derived.ProofKit
set_option linter.unusedVariables false
set_option linter.unusedSimpArgs false
set_option linter.unnecessarySimpa false
namespace Go.Proofs.YtpoebijgpbaccaaGreat
open Go Go.ChangeShapes Go.WideShapes Go.ChangeAt Go.RowKit Go.Eng
theorem own : ownKnob Tryz.prog.godebug = none := by kernel_rfl
theorem q6A : laidOutB Tryz.prog = true := by kernel_rfl
theorem q8y : ∀ t ∈ Tryz.f4.params.toList, Tryz.prog.readableRec t = true /\ t < Tryz.prog.types.size := by
 have h : (Tryz.f4.params.toList.all fun t => Tryz.prog.readableRec t && decide (t < Tryz.prog.types.size)) = true := by kernel_rfl
 intro t ht
 have := List.all_eq_true.1 h t ht
 simpa using this
theorem q8z : ∀ t ∈ Tryz.f4.params.toList, t ∈ ([33, 3, 92, 59, 94, 67, 46, 52, 121, 125, 176, 111, 114, 77, 109] : List TypeId) := by
 have h : (Tryz.f4.params.toList.all fun t => ([33, 3, 92, 59, 94, 67, 46, 52, 121, 125, 176, 111, 114, 77, 109] : List TypeId).contains t) = true := by kernel_rfl
 intro t ht
 simpa using List.all_eq_true.1 h t ht
theorem q8x {d : Nat} {avs : List AV} (h : FitP (Fit maxLen (shT Tryz.prog) d) [(true, [.slice 2 true 92, .slice 3 true 59, .slice 4 true 94, .int .i64, .int .i64, .int .i64, .int .i64, .int .i64, .int .i64, .int .i64, .int .i64, .int .i64, .int .i64, .int .i64, .int .i64, .int .i64, .int .i64, .slice 19 true 67, .slice 7 true 46, .slice 10 true 52, .slice 6 true 121, .slice 7 true 125]), (false, [.int .i64]), (false, [.int .i64])] avs) : ∃ n, (qav H53z.IP n).1 4 avs [] = some (.ret (.bool true), []) :=
 qb4.1 (H53z.law4 h)
set_option maxRecDepth 100000 in
theorem q8o (os : Os) (started : os.Started) (H : Type) (enc : TypeId × Value -> H) :
  ReturnsInHanded {} Tryz.checked os 4 .any (Rows.standinOpenSpec.pre6 enc Tryz.prog Tryz.f4 Rows.standinOpenRow.domain false) (Rows.standinOpenSpec.post enc Tryz.prog Tryz.f4 false true false false) := by
 refine returnsInHanded_of_change (C := Tryz.checked) own started (by kernel_rfl) Tryz.func4
  (ChangeSpec.witness6 (enc := enc) (C := Tryz.checked) false ⟨#[], #[.agg #[.slice none 0 0, .slice none 0 0, .slice none 0 0, .int .i64 0, .int .i64 0, .int .i64 0, .int .i64 0, .int .i64 0, .int .i64 0, .int .i64 0, .int .i64 0, .int .i64 0, .int .i64 0, .int .i64 0, .int .i64 0, .int .i64 0, .int .i64 0, .slice none 0 0, .slice none 0 0, .slice none 0 0, .slice none 0 0, .slice none 0 0], .int .i64 0, .int .i64 0], []⟩ 8 (by kernel_rfl) (by kernel_rfl) (by kernel_rfl) (by kernel_rfl)) ?_
 intro W base args ds gs before hval0 hW hcnd _
 have hval : ∀ (j : Nat) t v, Tryz.f4.params[j]? = some t -> args[j]? = some v -> Value.okWide Tryz.prog W .any base t v := hval0
 have hW' := hW
 obtain ⟨p, q, hA0, hV, rfl, hfz, hnd⟩ := hW
 have hA : DataW.TrodAll enc Tryz.prog W 0 (fun _ => true) true Tryz.f4.params.toList args.toList ds p := hA0
 obtain ⟨dd, avs, hfit, hrel⟩ := qyb (qs := [33, 3, 92, 59, 94, 67, 46, 52, 121, 125, 176, 111, 114, 77, 109]) (by kernel_rfl) (I := fun b o => MemPlace.cell b o ∈ p) (ps := [(true, [.slice 2 true 92, .slice 3 true 59, .slice 4 true 94, .int .i64, .int .i64, .int .i64, .int .i64, .int .i64, .int .i64, .int .i64, .int .i64, .int .i64, .int .i64, .int .i64, .int .i64, .int .i64, .int .i64, .slice 19 true 67, .slice 7 true 46, .slice 10 true 52, .slice 6 true 121, .slice 7 true 125]), (false, [.int .i64]), (false, [.int .i64])]) q8z (by kernel_rfl) hA (fun j t v ht hv => hval j t v (by simpa using ht) (by simpa using hv)) (fun b o h => h)
 obtain ⟨n, hn⟩ := q8x hfit
 have hlt := hW'.lt
 have hcall := qGY H53z.progOk (W := W) (fun b o (h : MemPlace.cell b o ∈ p) => hlt _ (List.mem_append_left _ h)) (fun _ _ h => by cases h) hrel hn
 rw [Tryz.params4] at hA
 obtain ⟨v0, vs0, d0, ds0, p0, q0, hargs, rfl, rfl, h0, r0⟩ := trodAll_cons hA
 obtain ⟨v1, vs1, d1, ds1, p1, q1, rfl, rfl, rfl, h1, r1⟩ := trodAll_cons r0
 obtain ⟨v2, vs2, d2, ds2, p2, q2, rfl, rfl, rfl, h2, r2⟩ := trodAll_cons r1
 obtain ⟨rfl, rfl, rfl⟩ := trodAll_nil r2
 obtain ⟨rfl, rfl⟩ := trodVars_none hV
 refine hcall.mono fun e W' ⟨he, hb⟩ => ?_
 exact ⟨_, he, qNR q6A q8y rfl rfl (by kernel_rfl) rfl rfl rfl hW' hb⟩
theorem StandinOpen_holds : Rows.StandinOpenSaid :=
 OpenClaim.holds_of_wide 4 Tryz.f4 rfl rfl rfl rfl rfl rfl rfl ⟨rfl, rfl, rfl, rfl, rfl⟩ rfl rfl rfl rfl rfl (by kernel_rfl) Tryz.func4 (by kernel_rfl)
  (of_decide_eq_true (by kernel_rfl)) (by unfold Func.isWrapper; first | (rw [if_pos (by decide +kernel)]; kernel_rfl) | (rw [if_neg (by decide +kernel)]; exact ⟨rfl, rfl⟩))
  (fun os started H enc _ => q8o os started H enc)
#print axioms StandinOpen_holds
end Go.Proofs.YtpoebijgpbaccaaGreat
