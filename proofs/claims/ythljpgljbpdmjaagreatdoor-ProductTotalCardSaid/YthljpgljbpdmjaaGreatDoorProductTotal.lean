/- 'ProductTotal' returns true for every input, and each argument reads behind the call as it read before. No condition but what the row lists of the package's variables, and the card ties that. -/
import Derived.Test.YthljpgljbpdmjaaGreatDoorJ15p
import Derived.Test.YthljpgljbpdmjaaGreatDoorCards
import Derived.Test.YthljpgljbpdmjaaGreatDoorTie
import Derived.ProofKit
import Derived.LaidMore
import Derived.Lay
import Derived.MakeChecks
import Derived.OpenShut
import Derived.Stop.Joined
import Derived.SevenTiedAt
set_option linter.unusedVariables false
set_option linter.unusedSimpArgs false
set_option linter.unnecessarySimpa false
namespace Go.Proofs.YthljpgljbpdmjaaGreatDoor
open Go Go.ChangeShapes Go.WideShapes Go.ChangeAt Go.RowKit Go.Eng
theorem own : ownKnob Tryz.prog.godebug = none := by kernel_rfl
theorem laid : laidOutB Tryz.prog = true := by kernel_rfl
theorem q9l : ∀ t ∈ Tryz.f7.params.toList, Tryz.prog.readableRec t = true /\ t < Tryz.prog.types.size := by
 have h : (Tryz.f7.params.toList.all fun t => Tryz.prog.readableRec t && decide (t < Tryz.prog.types.size)) = true := by kernel_rfl
 intro t ht
 have := List.all_eq_true.1 h t ht
 simpa using this
theorem zaZ : ∀ t ∈ Tryz.f7.params.toList, t ∈ ([34, 48, 80, 62, 64, 60] : List TypeId) := by
 have h : (Tryz.f7.params.toList.all fun t => ([34, 48, 80, 62, 64, 60] : List TypeId).contains t) = true := by kernel_rfl
 intro t ht
 simpa using List.all_eq_true.1 h t ht
theorem q20 {d : Nat} {avs : List AV} (h : qXq (Fit maxLen (shT Tryz.prog) d) [(true, H15p.shP), (true, H15p.shE)] avs) : ∃ n, (qaB H15p.IP n).1 7 avs [] = some (.ret (.bool true), []) :=
 qcW.1 (H15p.law7 h)
theorem qRq (os : Os) (args : Array Value) : laidMetH Tryz.prog Rows.productTotalRow.laid ((World.laidAll Tryz.prog os Rows.productTotalRow.laid).forCall (fun _ _ => 0) ⟨#[], args, []⟩).memory := by
 rw [MakeChecks.laidMetH_plain _ _ _ (by kernel_rfl)]
 exact laidMet_laidAll args (by kernel_rfl) (by kernel_rfl)
set_option maxRecDepth 100000 in
theorem qZL (os : Os) (started : os.Started) (H : Type) (enc : TypeId × Value -> H) :
  ReturnsInHanded {} Tryz.checked os 7 .any (fun w args => (Rows.productTotalSpec.pre enc Tryz.prog Tryz.f7 Rows.productTotalRow.domain false w args /\ laidMetH Tryz.prog Rows.productTotalRow.laid w) /\ sizedMet enc Tryz.prog Tryz.f7 (OpenSpec.ofChange Rows.productTotalSpec) false w args)
   (Rows.productTotalSpec.post enc Tryz.prog Tryz.f7 false true false false) := by
 refine returnsInHanded_of_change_and (C := Tryz.checked) (X := fun w _ => laidMetH Tryz.prog Rows.productTotalRow.laid w) (fun _ _ _ hh h => h.of_heap hh) own started (by kernel_rfl) Tryz.func7
  (ChangeSpec.witness_shaped (enc := enc) (C := Tryz.checked) (os := os) (X := fun w _ => laidMetH Tryz.prog Rows.productTotalRow.laid w) false (World.laidAll Tryz.prog os Rows.productTotalRow.laid) #[.agg #[.string ⟨#[]⟩, .string ⟨#[]⟩, .string ⟨#[]⟩, .int .i64 0, .int .i64 0, .int .i64 0, .int .i64 0, .slice none 0 0, .bool false, .int .i64 0, .int .i64 0, .bool false, .slice none 0 0, .bool false, .int .i64 0, .int .i64 0, .bool false, .slice none 0 0, .slice none 0 0], .agg #[.int .i64 0, .int .i64 0, .int .i64 0, .int .i64 0, .int .i64 0, .int .i64 0, .int .i64 0]] 8 (World.laidAll_os _ _ _) (World.shaped_of_ZipB (by kernel_rfl) (by kernel_rfl)) (by kernel_rfl) (by kernel_rfl) (by kernel_rfl) (qRq os _)) ?_
 intro W base args ds gs before hval0 hW _ _ hL _
 have hval : ∀ (j : Nat) t v, Tryz.f7.params[j]? = some t -> args[j]? = some v -> Value.okWide Tryz.prog W .any base t v := hval0
 have hW' := hW
 obtain ⟨p, q, hA0, hV, rfl, hfz, hnd⟩ := hW
 have hA : DataW.TrodAll enc Tryz.prog W 0 (fun _ => true) true Tryz.f7.params.toList args.toList ds p := hA0
 have hlt := hW'.lt
 have hG := H15p.globs_of (W := W) (I0 := fun b o => MemPlace.cell b o ∈ p) hL
 obtain ⟨dd, avs, hfit, hrel⟩ := qAL (qs := [34, 48, 80, 62, 64, 60]) (by kernel_rfl) (I := fun b o => MemPlace.cell b o ∈ p \/ ∃ cs, Globs.g b = some cs /\ o < cs.length) (ps := [(true, H15p.shP), (true, H15p.shE)]) zaZ (by kernel_rfl) hA (fun j t v ht hv => hval j t v (by simpa using ht) (by simpa using hv)) (fun b o h => .inl h)
 obtain ⟨n, hn⟩ := q20 hfit
 have hcall := qKO H15p.progOk (W := W) (qZE hG fun b o (h : MemPlace.cell b o ∈ p) => hlt _ (List.mem_append_left _ h)) (qZD hG) hrel hn
 rw [Tryz.params7] at hA
 obtain ⟨v0, vs0, d0, ds0, p0, q0, hargs, rfl, rfl, h0, r0⟩ := trodAll_cons hA
 obtain ⟨v1, vs1, d1, ds1, p1, q1, rfl, rfl, rfl, h1, r1⟩ := trodAll_cons r0
 obtain ⟨rfl, rfl, rfl⟩ := trodAll_nil r1
 obtain ⟨rfl, rfl⟩ := trodVars_none hV
 refine hcall.mono fun e W' ⟨he, hb⟩ => ?_
 exact ⟨_, he, qRJ laid q9l rfl rfl (by kernel_rfl) rfl rfl rfl hW' hb⟩
theorem qlh : Rows.ProductTotalSaid :=
 OpenClaim.holds_of_wide 7 Tryz.f7 rfl rfl rfl rfl rfl rfl rfl ⟨rfl, rfl, rfl, rfl, rfl⟩ rfl rfl rfl rfl rfl (by kernel_rfl) Tryz.func7 (by kernel_rfl)
  (of_decide_eq_true (by kernel_rfl)) (by unfold Func.isWrapper; first | (rw [if_pos (by decide +kernel)]; kernel_rfl) | (rw [if_neg (by decide +kernel)]; exact ⟨rfl, rfl⟩))
  (fun os started H enc _ => qZL os started H enc)
theorem ProductTotal_holds : Rows.ProductTotalCardSaid :=
 Claim7.holds_tied_plain_at .later [] [.data, .data, .data, .data, .sentinel, .sentinel, .listed, .data] true (true, "87b189dac35b6b83b2290809b3a8928b8fe12da5b83ff17223404fc1f316c701") true
  qlh (fun _ h => by cases h) (by kernel_rfl) (fun _ h => by cases h) productTotal_row_tie rfl ⟨rfl, rfl⟩ (by kernel_rfl) rfl
  (fun f fn hf hfn => by
   obtain rfl : f = 7 := Option.some.inj ((show Tryz.prog.funcNamed Rows.productTotalRow.func = some 7 by kernel_rfl).symm.trans hf) |>.symm
   obtain rfl : fn = Tryz.f7 := (Option.some.inj (Tryz.func7.symm.trans hfn)).symm
   exact ⟨by kernel_rfl, fun j t ht => by
    have hm : t ∈ ([34, 48, 80, 62, 64, 60] : List TypeId) := zaZ t (by simpa using Array.mem_of_getElem? ht)
    have hall : (([34, 48, 80, 62, 64, 60] : List TypeId).all fun u => !Tryz.prog.wantsStandIn u) = true := by kernel_rfl
    exact (show Tryz.prog.wantsStandIn t = false by simpa using List.all_eq_true.1 hall t hm)⟩)
  (by kernel_rfl)
#print axioms ProductTotal_holds
end Go.Proofs.YthljpgljbpdmjaaGreatDoor
