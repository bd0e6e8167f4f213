/- 'EvalRuns' returns true for every input, and each argument reads behind the call as it read before. No condition but what the row lists of the package's variables, and the card ties that. -/
import Derived.Test.YtigchhcddgibhaaGreatDoorJ13
import Derived.Test.YtigchhcddgibhaaGreatDoorCards
import Derived.Test.YtigchhcddgibhaaGreatDoorTie
import Derived.ProofKit
import Derived.LaidMore
import Derived.OpenShut
import Derived.Stop.Joined
import Derived.SevenTiedAt
set_option linter.unusedVariables false
set_option linter.unusedSimpArgs false
set_option linter.unnecessarySimpa false
namespace Go.Proofs.YtigchhcddgibhaaGreatDoor
open Go Go.ChangeShapes Go.WideShapes Go.ChangeAt Go.RowKit Go.Eng
theorem own : ownKnob Tryz.prog.godebug = none := by kernel_rfl
theorem laid : laidOutB Tryz.prog = true := by kernel_rfl
theorem q75 : ∀ t ∈ Tryz.f5.params.toList, Tryz.prog.readableRec t = true /\ t < Tryz.prog.types.size := by
 have h : (Tryz.f5.params.toList.all fun t => Tryz.prog.readableRec t && decide (t < Tryz.prog.types.size)) = true := by kernel_rfl
 intro t ht
 have := List.all_eq_true.1 h t ht
 simpa using this
theorem zaB : ∀ t ∈ Tryz.f5.params.toList, t ∈ ([41, 22, 3, 50, 75, 25] : List TypeId) := by
 have h : (Tryz.f5.params.toList.all fun t => ([41, 22, 3, 50, 75, 25] : List TypeId).contains t) = true := by kernel_rfl
 intro t ht
 simpa using List.all_eq_true.1 h t ht
theorem q0R {d : Nat} {avs : List AV} (h : qMd (Fit maxLen (shT Tryz.prog) d) [(true, H13.shC), (false, [.slice 2 true 25]), (false, [.int .i64])] avs) : ∃ n, (qaP H13.IP n).1 5 avs [] = some (.ret (.bool true), []) :=
 qgR.1 (H13.law5 h)
theorem qMF (os : Os) (args : Array Value) : laidMetH Tryz.prog Rows.evalRunsRow.laid ((World.doorLaid Tryz.prog 400 os).forCall (fun _ _ => 0) ⟨#[], args, []⟩).memory :=
 laidMetH_of_parts3 (fuel := 8) (laidMet_of_run' 8 (by kernel_rfl) (by kernel_rfl)) (by kernel_rfl) (by kernel_rfl)
set_option maxRecDepth 100000 in
theorem qV8 (os : Os) (started : os.Started) (H : Type) (enc : TypeId × Value -> H) :
  ReturnsInHanded {} Tryz.checked os 5 .any (fun w args => (Rows.evalRunsSpec.pre enc Tryz.prog Tryz.f5 Rows.evalRunsRow.domain false w args /\ laidMetH Tryz.prog Rows.evalRunsRow.laid w) /\ sizedMet enc Tryz.prog Tryz.f5 (OpenSpec.ofChange Rows.evalRunsSpec) false w args)
   (Rows.evalRunsSpec.post enc Tryz.prog Tryz.f5 false true false false) := by
 refine returnsInHanded_of_change_and (C := Tryz.checked) (X := fun w _ => laidMetH Tryz.prog Rows.evalRunsRow.laid w) (fun _ _ _ hh h => h.of_heap hh) own started (by kernel_rfl) Tryz.func5
  (ChangeSpec.witness_shaped (enc := enc) (C := Tryz.checked) (os := os) (X := fun w _ => laidMetH Tryz.prog Rows.evalRunsRow.laid w) false (World.doorLaid Tryz.prog 400 os) #[.agg #[.int .i64 0, .slice none 0 0, .slice none 0 0], .slice none 0 0, .int .i64 0] 8 rfl (World.shaped_of_RefB (by kernel_rfl) (by kernel_rfl)) (by kernel_rfl) (by kernel_rfl) (by kernel_rfl) (qMF os _)) ?_
 intro W base args ds gs before hval0 hW _ _ hL _
 have hval : ∀ (j : Nat) t v, Tryz.f5.params[j]? = some t -> args[j]? = some v -> Value.okWide Tryz.prog W .any base t v := hval0
 have hW' := hW
 obtain ⟨p, q, hA0, hV, rfl, hfz, hnd⟩ := hW
 have hA : DataW.TrodAll enc Tryz.prog W 0 (fun _ => true) true Tryz.f5.params.toList args.toList ds p := hA0
 have hlt := hW'.lt
 have hG := H13.globs_of (W := W) (I0 := fun b o => MemPlace.cell b o ∈ p) hL
 obtain ⟨dd, avs, hfit, hrel⟩ := qMx (qs := [41, 22, 3, 50, 75, 25]) (by kernel_rfl) (I := fun b o => MemPlace.cell b o ∈ p \/ ∃ cs, Globs.g b = some cs /\ o < cs.length) (ps := [(true, H13.shC), (false, [.slice 2 true 25]), (false, [.int .i64])]) zaB (by kernel_rfl) hA (fun j t v ht hv => hval j t v (by simpa using ht) (by simpa using hv)) (fun b o h => .inl h)
 obtain ⟨n, hn⟩ := q0R hfit
 have hcall := qQV H13.progOk (W := W) (q1t hG fun b o (h : MemPlace.cell b o ∈ p) => hlt _ (List.mem_append_left _ h)) (q1s hG) hrel hn
 rw [Tryz.params5] at hA
 obtain ⟨v0, vs0, d0, ds0, p0, q0, hargs, rfl, rfl, h0, r0⟩ := trodAll_cons hA
 obtain ⟨v1, vs1, d1, ds1, p1, q1, rfl, rfl, rfl, h1, r1⟩ := trodAll_cons r0
 obtain ⟨v2, vs2, d2, ds2, p2, q2, rfl, rfl, rfl, h2, r2⟩ := trodAll_cons r1
 obtain ⟨rfl, rfl, rfl⟩ := trodAll_nil r2
 obtain ⟨rfl, rfl⟩ := trodVars_none hV
 refine hcall.mono fun e W' ⟨he, hb⟩ => ?_
 exact ⟨_, he, qXZ laid q75 rfl rfl (by kernel_rfl) rfl rfl rfl hW' hb⟩
theorem qrg : Rows.EvalRunsSaid :=
 OpenClaim.holds_of_wide 5 Tryz.f5 rfl rfl rfl rfl rfl rfl rfl ⟨rfl, rfl, rfl, rfl, rfl⟩ rfl rfl rfl rfl rfl (by kernel_rfl) Tryz.func5 (by kernel_rfl)
  (of_decide_eq_true (by kernel_rfl)) (by unfold Func.isWrapper; first | (rw [if_pos (by decide +kernel)]; kernel_rfl) | (rw [if_neg (by decide +kernel)]; exact ⟨rfl, rfl⟩))
  (fun os started H enc _ => qV8 os started H enc)
theorem EvalRuns_holds : Rows.EvalRunsCardSaid :=
 Claim7.holds_tied_plain_at .later [] [.data, .data, .data, .data, .sentinel, .sentinel, .listed, .data] true (true, "5be6375b4f2e0925b668340d43fb0e0e0253e543f8ae87de0092ca17f7a57bff") true
  qrg (fun _ h => by cases h) (by kernel_rfl) (fun _ h => by cases h) evalRuns_row_tie rfl ⟨rfl, rfl⟩ (by kernel_rfl) rfl
  (fun f fn hf hfn => by
   obtain rfl : f = 5 := Option.some.inj ((show Tryz.prog.funcNamed Rows.evalRunsRow.func = some 5 by kernel_rfl).symm.trans hf) |>.symm
   obtain rfl : fn = Tryz.f5 := (Option.some.inj (Tryz.func5.symm.trans hfn)).symm
   exact ⟨by kernel_rfl, fun j t ht => by
    have hm : t ∈ ([41, 22, 3, 50, 75, 25] : List TypeId) := zaB t (by simpa using Array.mem_of_getElem? ht)
    have hall : (([41, 22, 3, 50, 75, 25] : List TypeId).all fun u => !Tryz.prog.wantsStandIn u) = true := by kernel_rfl
    exact (show Tryz.prog.wantsStandIn t = false by simpa using List.all_eq_true.1 hall t hm)⟩)
  (by kernel_rfl)
#print axioms EvalRuns_holds
end Go.Proofs.YtigchhcddgibhaaGreatDoor
