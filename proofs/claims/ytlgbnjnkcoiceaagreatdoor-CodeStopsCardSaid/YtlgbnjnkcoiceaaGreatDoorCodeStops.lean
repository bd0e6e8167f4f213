/- 'CodeStops' returns true for every input, and each argument reads behind the call as it read before. No condition but what the row lists of the package's variables, and the card ties that. -/
import Derived.Test.YtlgbnjnkcoiceaaGreatDoorJ12
import Derived.Test.YtlgbnjnkcoiceaaGreatDoorCards
import Derived.Test.YtlgbnjnkcoiceaaGreatDoorTie
import Derived.ProofKit
import Derived.LaidMore
import Derived.OpenShut
import Derived.Stop.Joined
import Derived.SevenTiedAt
set_option linter.unusedVariables false
set_option linter.unusedSimpArgs false
set_option linter.unnecessarySimpa false
namespace Go.Proofs.YtlgbnjnkcoiceaaGreatDoor
open Go Go.ChangeShapes Go.WideShapes Go.ChangeAt Go.RowKit Go.Eng
theorem own : ownKnob Tryz.prog.godebug = none := by kernel_rfl
theorem laid : laidOutB Tryz.prog = true := by kernel_rfl
theorem read9 : ∀ t ∈ Tryz.f9.params.toList, Tryz.prog.readableRec t = true ∧ t < Tryz.prog.types.size := by
  have h : (Tryz.f9.params.toList.all fun t => Tryz.prog.readableRec t && decide (t < Tryz.prog.types.size)) = true := by kernel_rfl
  intro t ht
  have := List.all_eq_true.1 h t ht
  simpa using this
theorem mem9 : ∀ t ∈ Tryz.f9.params.toList, t ∈ ([30, 3, 58, 47] : List TypeId) := by
  have h : (Tryz.f9.params.toList.all fun t => ([30, 3, 58, 47] : List TypeId).contains t) = true := by kernel_rfl
  intro t ht
  simpa using List.all_eq_true.1 h t ht
theorem calls9 {d : Nat} {avs : List AV} (h : FitP (Fit maxLen (shT Tryz.prog) d) [(true, H12.shC), (false, [.int .i64]), (false, [.int .i64])] avs) : ∃ n, (oracle H12.IP n).1 9 avs [] = some (.ret (.bool true), []) :=
  callO_iff.1 (H12.law9 h)
theorem door_met (os : Os) (args : Array Value) : laidMetH Tryz.prog Rows.codeStopsRow.laid ((World.doorLaid Tryz.prog 400 os).forCall (fun _ _ => 0) ⟨#[], args, []⟩).memory :=
  laidMetH_of_parts3 (fuel := 8) (laidMet_of_run' 8 (by kernel_rfl) (by kernel_rfl)) (by kernel_rfl) (by kernel_rfl)
set_option maxRecDepth 100000 in
theorem lifted9 (os : Os) (started : os.Started) (H : Type) (enc : TypeId × Value → H) :
    ReturnsInHanded {} Tryz.checked os 9 .any (fun w args => (Rows.codeStopsSpec.pre enc Tryz.prog Tryz.f9 Rows.codeStopsRow.domain false w args ∧ laidMetH Tryz.prog Rows.codeStopsRow.laid w) ∧ sizedMet enc Tryz.prog Tryz.f9 (OpenSpec.ofChange Rows.codeStopsSpec) false w args)
      (Rows.codeStopsSpec.post enc Tryz.prog Tryz.f9 false true false false) := by
  refine returnsInHanded_of_change_and (C := Tryz.checked) (X := fun w _ => laidMetH Tryz.prog Rows.codeStopsRow.laid w) (fun _ _ _ hh h => h.of_heap hh) own started (by kernel_rfl) Tryz.func9
    (ChangeSpec.witness_shaped (enc := enc) (C := Tryz.checked) (os := os) (X := fun w _ => laidMetH Tryz.prog Rows.codeStopsRow.laid w) false (World.doorLaid Tryz.prog 400 os) #[.agg #[.int .i64 0, .slice none 0 0, .slice none 0 0], .int .i64 0, .int .i64 0] 8 rfl (World.shaped_of_RefB (by kernel_rfl) (by kernel_rfl)) (by kernel_rfl) (by kernel_rfl) (by kernel_rfl) (door_met os _)) ?_
  intro W base args ds gs before hval0 hW _ _ hL _
  have hval : ∀ (j : Nat) t v, Tryz.f9.params[j]? = some t → args[j]? = some v → Value.okWide Tryz.prog W .any base t v := hval0
  have hW' := hW
  obtain ⟨p, q, hA0, hV, rfl, hfz, hnd⟩ := hW
  have hA : DataW.TrodAll enc Tryz.prog W 0 (fun _ => true) true Tryz.f9.params.toList args.toList ds p := hA0
  have hlt := hW'.lt
  have hG := H12.globs_of (W := W) (I0 := fun b o => MemPlace.cell b o ∈ p) hL
  obtain ⟨dd, avs, hfit, hrel⟩ := args_fit (qs := [30, 3, 58, 47]) (by kernel_rfl) (I := fun b o => MemPlace.cell b o ∈ p ∨ ∃ cs, Globs.g b = some cs ∧ o < cs.length) (ps := [(true, H12.shC), (false, [.int .i64]), (false, [.int .i64])]) mem9 (by kernel_rfl) hA (fun j t v ht hv => hval j t v (by simpa using ht) (by simpa using hv)) (fun b o h => .inl h)
  obtain ⟨n, hn⟩ := calls9 hfit
  have hcall := law_calls H12.progOk (W := W) (glob_lt hG fun b o (h : MemPlace.cell b o ∈ p) => hlt _ (List.mem_append_left _ h)) (glob_at hG) hrel hn
  rw [Tryz.params9] at hA
  obtain ⟨v0, vs0, d0, ds0, p0, q0, hargs, rfl, rfl, h0, r0⟩ := trodAll_cons hA
  obtain ⟨v1, vs1, d1, ds1, p1, q1, rfl, rfl, rfl, h1, r1⟩ := trodAll_cons r0
  obtain ⟨v2, vs2, d2, ds2, p2, q2, rfl, rfl, rfl, h2, r2⟩ := trodAll_cons r1
  obtain ⟨rfl, rfl, rfl⟩ := trodAll_nil r2
  obtain ⟨rfl, rfl⟩ := trodVars_none hV
  refine hcall.mono fun e W' ⟨he, hb⟩ => ?_
  exact ⟨_, he, law_post laid read9 rfl rfl (by kernel_rfl) rfl rfl rfl hW' hb⟩
theorem CodeStops_row : Rows.CodeStopsSaid :=
  OpenClaim.holds_of_wide 9 Tryz.f9 rfl rfl rfl rfl rfl rfl rfl ⟨rfl, rfl, rfl, rfl, rfl⟩ rfl rfl rfl rfl rfl (by kernel_rfl) Tryz.func9 (by kernel_rfl)
    (of_decide_eq_true (by kernel_rfl)) (by unfold Func.isWrapper; first | (rw [if_pos (by decide +kernel)]; kernel_rfl) | (rw [if_neg (by decide +kernel)]; exact ⟨rfl, rfl⟩))
    (fun os started H enc _ => lifted9 os started H enc)
theorem CodeStops_holds : Rows.CodeStopsCardSaid :=
  Claim7.holds_tied_plain_at .later [] [.data, .data, .data, .sentinel, .sentinel, .listed, .data] true (true, "981d3b6e0c9a1252717a5a566ac93aaefd460d6444114545a07c1bca89594e48") true
    CodeStops_row (fun _ h => by cases h) (by kernel_rfl) (fun _ h => by cases h) codeStops_row_tie rfl ⟨rfl, rfl⟩ (by kernel_rfl) rfl
    (fun f fn hf hfn => by
      obtain rfl : f = 9 := Option.some.inj ((show Tryz.prog.funcNamed Rows.codeStopsRow.func = some 9 by kernel_rfl).symm.trans hf) |>.symm
      obtain rfl : fn = Tryz.f9 := (Option.some.inj (Tryz.func9.symm.trans hfn)).symm
      exact ⟨by kernel_rfl, fun j t ht => by
        have hm : t ∈ ([30, 3, 58, 47] : List TypeId) := mem9 t (by simpa using Array.mem_of_getElem? ht)
        have hall : (([30, 3, 58, 47] : List TypeId).all fun u => !Tryz.prog.wantsStandIn u) = true := by kernel_rfl
        exact (show Tryz.prog.wantsStandIn t = false by simpa using List.all_eq_true.1 hall t hm)⟩)
    (by kernel_rfl)
#print axioms CodeStops_holds
end Go.Proofs.YtlgbnjnkcoiceaaGreatDoor
