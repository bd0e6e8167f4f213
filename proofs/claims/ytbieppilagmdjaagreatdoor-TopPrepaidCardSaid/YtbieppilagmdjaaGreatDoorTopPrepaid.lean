/- 'TopPrepaid' returns true for every input, and each argument reads behind the call as it read before. No condition but what the row lists of the package's variables, and the card ties that. -/
import Derived.Test.YtbieppilagmdjaaGreatDoorJ35
import Derived.Test.YtbieppilagmdjaaGreatDoorTopPrepaidFacts
import Derived.Test.YtbieppilagmdjaaGreatDoorCards
import Derived.Test.YtbieppilagmdjaaGreatDoorTie
import Derived.ProofKit
import Derived.LaidMore
import Derived.Lay
import Derived.MakeChecks
import Derived.OpenShut
import Derived.Stop.Joined
import Derived.SevenTiedAt
set_option linter.unusedVariables false
set_option linter.unusedSimpArgs false
set_option linter.unnecessarySimpa false
namespace Go.Proofs.YtbieppilagmdjaaGreatDoor
open Go Go.ChangeShapes Go.WideShapes Go.ChangeAt Go.RowKit Go.Eng
theorem own : ownKnob Tryz.prog.godebug = none := by kernel_rfl
theorem laid : laidOutB Tryz.prog = true := by kernel_rfl
theorem qZv : ∀ t ∈ Tryz.f3.params.toList, Tryz.prog.readableRec t = true /\ t < Tryz.prog.types.size := by
 have h : (Tryz.f3.params.toList.all fun t => Tryz.prog.readableRec t && decide (t < Tryz.prog.types.size)) = true := by kernel_rfl
 intro t ht
 have := List.all_eq_true.1 h t ht
 simpa using this
theorem mem3 : ∀ t ∈ Tryz.f3.params.toList, t ∈ ([23, 26, 5, 3] : List TypeId) := by
 have h : (Tryz.f3.params.toList.all fun t => ([23, 26, 5, 3] : List TypeId).contains t) = true := by kernel_rfl
 intro t ht
 simpa using List.all_eq_true.1 h t ht
theorem qRT {d : Nat} {avs : List AV} (h : qMA (Fit maxLen (shT Tryz.prog) d) [(true, H35.shM), (true, H35.shK), (false, [.int .u8])] avs) : ∃ n, (qaq H35.IP n).1 3 avs [] = some (.ret (.bool true), []) :=
 qbw.1 (H35.law3 h)
theorem qFx (os : Os) (args : Array Value) : laidMetH Tryz.prog Rows.topPrepaidRow.laid ((World.laidAll Tryz.prog os Rows.topPrepaidRow.laid).forCall (fun _ _ => 0) ⟨#[], args, []⟩).memory := by
 rw [MakeChecks.laidMetH_plain _ _ _ (by kernel_rfl)]
 exact laidMet_laidAll args (by kernel_rfl) (by kernel_rfl)
set_option maxRecDepth 100000 in
theorem qNY (os : Os) (started : os.Started) (H : Type) (enc : TypeId × Value -> H) :
  ReturnsInHanded {} Tryz.checked os 3 .any (fun w args => (Rows.topPrepaidSpec.pre enc Tryz.prog Tryz.f3 Rows.topPrepaidRow.domain false w args /\ laidMetH Tryz.prog Rows.topPrepaidRow.laid w) /\ sizedMet enc Tryz.prog Tryz.f3 (OpenSpec.ofChange Rows.topPrepaidSpec) false w args)
   (Rows.topPrepaidSpec.post enc Tryz.prog Tryz.f3 false true false false) := by
 refine returnsInHanded_of_change_and (C := Tryz.checked) (X := fun w _ => laidMetH Tryz.prog Rows.topPrepaidRow.laid w) (fun _ _ _ hh h => h.of_heap hh) own started (by kernel_rfl) Tryz.func3
  (ChangeSpec.witness_shaped (enc := enc) (C := Tryz.checked) (os := os) (X := fun w _ => laidMetH Tryz.prog Rows.topPrepaidRow.laid w) false (World.laidAll Tryz.prog os Rows.topPrepaidRow.laid) #[.agg #[.int .i64 0, .int .i64 0, .int .i64 0, .int .i64 0, .int .i64 0, .int .i64 0, .int .i64 0, .int .i64 0, .int .i64 0, .int .i64 0, .string ⟨#[]⟩, .string ⟨#[]⟩], .agg #[.string ⟨#[]⟩, .slice none 0 0, .slice none 0 0], .int .u8 0] 8 (World.laidAll_os _ _ _) (World.shaped_of_ZipB (by kernel_rfl) (by kernel_rfl)) (by kernel_rfl) (by kernel_rfl) (by kernel_rfl) (qFx os _)) ?_
 intro W base args ds gs before hval0 hW _ _ hL _
 have hval : ∀ (j : Nat) t v, Tryz.f3.params[j]? = some t -> args[j]? = some v -> Value.okWide Tryz.prog W .any base t v := hval0
 have hW' := hW
 obtain ⟨p, q, hA0, hV, rfl, hfz, hnd⟩ := hW
 have hA : DataW.TrodAll enc Tryz.prog W 0 (fun _ => true) true Tryz.f3.params.toList args.toList ds p := hA0
 have hlt := hW'.lt
 have hG := H35.globs_of (W := W) (I0 := fun b o => MemPlace.cell b o ∈ p) hL
 obtain ⟨dd, avs, hfit, hrel⟩ := qus (qs := [23, 26, 5, 3]) (by kernel_rfl) (I := fun b o => MemPlace.cell b o ∈ p \/ ∃ cs, Globs.g b = some cs /\ o < cs.length) (ps := [(true, H35.shM), (true, H35.shK), (false, [.int .u8])]) mem3 (by kernel_rfl) hA (fun j t v ht hv => hval j t v (by simpa using ht) (by simpa using hv)) (fun b o h => .inl h)
 obtain ⟨n, hn⟩ := qRT hfit
 have hcall := qBE H35.progOk (W := W) (qNN hG fun b o (h : MemPlace.cell b o ∈ p) => hlt _ (List.mem_append_left _ h)) (qNM hG) hrel hn
 rw [Tryz.params3] at hA
 obtain ⟨v0, vs0, d0, ds0, p0, q0, hargs, rfl, rfl, h0, r0⟩ := trodAll_cons hA
 obtain ⟨v1, vs1, d1, ds1, p1, q1, rfl, rfl, rfl, h1, r1⟩ := trodAll_cons r0
 obtain ⟨v2, vs2, d2, ds2, p2, q2, rfl, rfl, rfl, h2, r2⟩ := trodAll_cons r1
 obtain ⟨rfl, rfl, rfl⟩ := trodAll_nil r2
 obtain ⟨rfl, rfl⟩ := trodVars_none hV
 refine hcall.mono fun e W' ⟨he, hb⟩ => ?_
 exact ⟨_, he, qF2 laid qZv rfl rfl (by kernel_rfl) rfl rfl rfl hW' hb⟩
theorem qlr : Rows.TopPrepaidSaid :=
 OpenClaim.holds_of_wide 3 Tryz.f3 rfl rfl rfl rfl rfl rfl rfl ⟨rfl, rfl, rfl, rfl, rfl⟩ rfl rfl rfl rfl rfl (by kernel_rfl) Tryz.func3 qSd
  (of_decide_eq_true (by kernel_rfl)) (by unfold Func.isWrapper; first | (rw [if_pos (by decide +kernel)]; kernel_rfl) | (rw [if_neg (by decide +kernel)]; exact ⟨rfl, rfl⟩))
  (fun os started H enc _ => qNY os started H enc)
theorem TopPrepaid_holds : Rows.TopPrepaidCardSaid :=
 Claim7.holds_tied_plain_at .later [] [.data, .data, .data, .data, .sentinel, .sentinel, .listed, .data] true (true, "82dc0e35e8e515d8dee0b5d98502bd61365e172679e4384b65afae0bf81af831") true
  qlr (fun _ h => by cases h) (by kernel_rfl) (fun _ h => by cases h) topPrepaid_row_tie rfl ⟨rfl, rfl⟩ (by kernel_rfl) rfl
  (fun f fn hf hfn => by
   obtain rfl : f = 3 := Option.some.inj ((show Tryz.prog.funcNamed Rows.topPrepaidRow.func = some 3 by kernel_rfl).symm.trans hf) |>.symm
   obtain rfl : fn = Tryz.f3 := (Option.some.inj (Tryz.func3.symm.trans hfn)).symm
   exact ⟨by kernel_rfl, fun j t ht => by
    have hm : t ∈ ([23, 26, 5, 3] : List TypeId) := mem3 t (by simpa using Array.mem_of_getElem? ht)
    have hall : (([23, 26, 5, 3] : List TypeId).all fun u => !Tryz.prog.wantsStandIn u) = true := by kernel_rfl
    exact (show Tryz.prog.wantsStandIn t = false by simpa using List.all_eq_true.1 hall t hm)⟩)
  (by kernel_rfl)
#print axioms TopPrepaid_holds
end Go.Proofs.YtbieppilagmdjaaGreatDoor
