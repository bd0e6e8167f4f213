/- 'TypingSound' returns true for every input, and each argument reads behind the call as it read before. No condition but what the row lists of the package's variables, and the card ties that. -/
import Derived.Test.YtbhffafppahmjaaDoorJ11d
import Derived.Test.YtbhffafppahmjaaDoorCards
import Derived.Test.YtbhffafppahmjaaDoorTie
import Derived.ProofKit
import Derived.LaidMore
import Derived.OpenShut
import Derived.Stop.Joined
import Derived.SevenTiedAt
set_option linter.unusedVariables false
set_option linter.unusedSimpArgs false
set_option linter.unnecessarySimpa false
namespace Go.Proofs.YtbhffafppahmjaaDoor
open Go Go.ChangeShapes Go.WideShapes Go.ChangeAt Go.RowKit Go.Eng
theorem own : ownKnob Tryd.prog.godebug = none := by kernel_rfl
theorem laid : laidOutB Tryd.prog = true := by kernel_rfl
theorem read4 : ∀ t ∈ Tryd.f4.params.toList, Tryd.prog.readableRec t = true ∧ t < Tryd.prog.types.size := by
  have h : (Tryd.f4.params.toList.all fun t => Tryd.prog.readableRec t && decide (t < Tryd.prog.types.size)) = true := by kernel_rfl
  intro t ht
  have := List.all_eq_true.1 h t ht
  simpa using this
theorem mem4 : ∀ t ∈ Tryd.f4.params.toList, t ∈ ([30, 29, 5, 40] : List TypeId) := by
  have h : (Tryd.f4.params.toList.all fun t => ([30, 29, 5, 40] : List TypeId).contains t) = true := by kernel_rfl
  intro t ht
  simpa using List.all_eq_true.1 h t ht
theorem calls4 {d : Nat} {avs : List AV} (h : FitP (Fit maxLen (shT Tryd.prog) d) [(true, H11d.shX), (false, [.slice 2 true 40]), (false, [.int .u8])] avs) : ∃ n, (oracle H11d.IP n).1 4 avs [] = some (.ret (.bool true), []) :=
  callO_iff.1 (H11d.law4 h)
theorem door_met (os : Os) (args : Array Value) : laidMetH Tryd.prog Rows.typingSoundRow.laid ((World.doorLaid Tryd.prog 400 os).forCall (fun _ _ => 0) ⟨#[], args, []⟩).memory :=
  laidMetH_of_parts3 (fuel := 8) (laidMet_of_run' 8 (by kernel_rfl) (by kernel_rfl)) (by kernel_rfl) (by kernel_rfl)
set_option maxRecDepth 100000 in
theorem lifted4 (os : Os) (started : os.Started) (H : Type) (enc : TypeId × Value → H) :
    ReturnsInHanded {} Tryd.checked os 4 .any (fun w args => (Rows.typingSoundSpec.pre enc Tryd.prog Tryd.f4 Rows.typingSoundRow.domain false w args ∧ laidMetH Tryd.prog Rows.typingSoundRow.laid w) ∧ sizedMet enc Tryd.prog Tryd.f4 (OpenSpec.ofChange Rows.typingSoundSpec) false w args)
      (Rows.typingSoundSpec.post enc Tryd.prog Tryd.f4 false true false false) := by
  refine returnsInHanded_of_change_and (C := Tryd.checked) (X := fun w _ => laidMetH Tryd.prog Rows.typingSoundRow.laid w) (fun _ _ _ hh h => h.of_heap hh) own started (by kernel_rfl) Tryd.func4
    (ChangeSpec.witness_shaped (enc := enc) (C := Tryd.checked) (os := os) (X := fun w _ => laidMetH Tryd.prog Rows.typingSoundRow.laid w) false (World.doorLaid Tryd.prog 400 os) #[.agg #[.int .i64 0, .int .i64 0, .string ⟨#[]⟩, .slice none 0 0], .slice none 0 0, .int .u8 0] 8 rfl (World.shaped_of_RefB (by kernel_rfl) (by kernel_rfl)) (by kernel_rfl) (by kernel_rfl) (by kernel_rfl) (door_met os _)) ?_
  intro W base args ds gs before hval0 hW _ _ hL _
  have hval : ∀ (j : Nat) t v, Tryd.f4.params[j]? = some t → args[j]? = some v → Value.okWide Tryd.prog W .any base t v := hval0
  have hW' := hW
  obtain ⟨p, q, hA0, hV, rfl, hfz, hnd⟩ := hW
  have hA : DataW.TrodAll enc Tryd.prog W 0 (fun _ => true) true Tryd.f4.params.toList args.toList ds p := hA0
  have hlt := hW'.lt
  have hG := H11d.globs_of (W := W) (I0 := fun b o => MemPlace.cell b o ∈ p) hL
  obtain ⟨dd, avs, hfit, hrel⟩ := args_fit (qs := [30, 29, 5, 40]) (by kernel_rfl) (I := fun b o => MemPlace.cell b o ∈ p ∨ ∃ cs, Globs.g b = some cs ∧ o < cs.length) (ps := [(true, H11d.shX), (false, [.slice 2 true 40]), (false, [.int .u8])]) mem4 (by kernel_rfl) hA (fun j t v ht hv => hval j t v (by simpa using ht) (by simpa using hv)) (fun b o h => .inl h)
  obtain ⟨n, hn⟩ := calls4 hfit
  have hcall := law_calls H11d.progOk (W := W) (glob_lt hG fun b o (h : MemPlace.cell b o ∈ p) => hlt _ (List.mem_append_left _ h)) (glob_at hG) hrel hn
  rw [Tryd.params4] at hA
  obtain ⟨v0, vs0, d0, ds0, p0, q0, hargs, rfl, rfl, h0, r0⟩ := trodAll_cons hA
  obtain ⟨v1, vs1, d1, ds1, p1, q1, rfl, rfl, rfl, h1, r1⟩ := trodAll_cons r0
  obtain ⟨v2, vs2, d2, ds2, p2, q2, rfl, rfl, rfl, h2, r2⟩ := trodAll_cons r1
  obtain ⟨rfl, rfl, rfl⟩ := trodAll_nil r2
  obtain ⟨rfl, rfl⟩ := trodVars_none hV
  refine hcall.mono fun e W' ⟨he, hb⟩ => ?_
  exact ⟨_, he, law_post laid read4 rfl rfl (by kernel_rfl) rfl rfl rfl hW' hb⟩
theorem TypingSound_row : Rows.TypingSoundSaid :=
  OpenClaim.holds_of_wide 4 Tryd.f4 rfl rfl rfl rfl rfl rfl rfl ⟨rfl, rfl, rfl, rfl, rfl⟩ rfl rfl rfl rfl rfl (by kernel_rfl) Tryd.func4 (by kernel_rfl)
    (of_decide_eq_true (by kernel_rfl)) (by unfold Func.isWrapper; first | (rw [if_pos (by decide +kernel)]; kernel_rfl) | (rw [if_neg (by decide +kernel)]; exact ⟨rfl, rfl⟩))
    (fun os started H enc _ => lifted4 os started H enc)
theorem TypingSound_holds : Rows.TypingSoundCardSaid :=
  Claim7.holds_tied_plain_at .later [] [.data, .data, .data, .sentinel, .sentinel, .listed, .data] true (true, "91f3999e734598df1a4f8140e60e68de4511a590946a1472bf2d953aae138b31") true
    TypingSound_row (fun _ h => by cases h) (by kernel_rfl) (fun _ h => by cases h) typingSound_row_tie rfl ⟨rfl, rfl⟩ (by kernel_rfl) rfl
    (fun f fn hf hfn => by
      obtain rfl : f = 4 := Option.some.inj ((show Tryd.prog.funcNamed Rows.typingSoundRow.func = some 4 by kernel_rfl).symm.trans hf) |>.symm
      obtain rfl : fn = Tryd.f4 := (Option.some.inj (Tryd.func4.symm.trans hfn)).symm
      exact ⟨by kernel_rfl, fun j t ht => by
        have hm : t ∈ ([30, 29, 5, 40] : List TypeId) := mem4 t (by simpa using Array.mem_of_getElem? ht)
        have hall : (([30, 29, 5, 40] : List TypeId).all fun u => !Tryd.prog.wantsStandIn u) = true := by kernel_rfl
        exact (show Tryd.prog.wantsStandIn t = false by simpa using List.all_eq_true.1 hall t hm)⟩)
    (by kernel_rfl)
#print axioms TypingSound_holds
end Go.Proofs.YtbhffafppahmjaaDoor
