/- 'TokenBlanks' returns true for every input, and each argument reads behind the call as it read before. No condition but what the row lists of the package's variables, and the card ties that. -/
import Derived.Test.YtoeknkhpjdomhaaGreatDoorJ09
import Derived.Test.YtoeknkhpjdomhaaGreatDoorCards
import Derived.Test.YtoeknkhpjdomhaaGreatDoorTie
import Derived.ProofKit
import Derived.LaidMore
import Derived.Lay
import Derived.MakeChecks
import Derived.OpenShut
import Derived.Stop.Joined
import Derived.SevenTiedAt
set_option linter.unusedVariables false
set_option linter.unusedSimpArgs false
set_option linter.unnecessarySimpa false
namespace Go.Proofs.YtoeknkhpjdomhaaGreatDoor
open Go Go.ChangeShapes Go.WideShapes Go.ChangeAt Go.RowKit Go.Eng
theorem own : ownKnob Tryz.prog.godebug = none := by kernel_rfl
theorem laid : laidOutB Tryz.prog = true := by kernel_rfl
theorem qFi : ∀ t ∈ Tryz.f9.params.toList, Tryz.prog.readableRec t = true ∧ t < Tryz.prog.types.size := by
 have h : (Tryz.f9.params.toList.all fun t => Tryz.prog.readableRec t && decide (t < Tryz.prog.types.size)) = true := by kernel_rfl
 intro t ht
 have := List.all_eq_true.1 h t ht
 simpa using this
theorem qFj : ∀ t ∈ Tryz.f9.params.toList, t ∈ ([9] : List TypeId) := by
 have h : (Tryz.f9.params.toList.all fun t => ([9] : List TypeId).contains t) = true := by kernel_rfl
 intro t ht
 simpa using List.all_eq_true.1 h t ht
theorem qFh {d : Nat} {avs : List AV} (h : qn4 (Fit maxLen (shT Tryz.prog) d) [(false, [.str])] avs) : ∃ n, (qal H09.IP n).1 9 avs [] = some (.ret (.bool true), []) :=
 qcH.1 (H09.law9 h)
theorem qtx (os : Os) (args : Array Value) : laidMetH Tryz.prog Rows.tokenBlanksRow.laid ((World.laidAll Tryz.prog os Rows.tokenBlanksRow.laid).forCall (fun _ _ => 0) ⟨#[], args, []⟩).memory := by
 rw [MakeChecks.laidMetH_plain _ _ _ (by kernel_rfl)]
 exact laidMet_laidAll args (by kernel_rfl) (by kernel_rfl)
set_option maxRecDepth 100000 in
theorem qFg (os : Os) (started : os.Started) (H : Type) (enc : TypeId × Value → H) :
  ReturnsInHanded {} Tryz.checked os 9 .any (fun w args => (Rows.tokenBlanksSpec.pre enc Tryz.prog Tryz.f9 Rows.tokenBlanksRow.domain false w args ∧ laidMetH Tryz.prog Rows.tokenBlanksRow.laid w) ∧ sizedMet enc Tryz.prog Tryz.f9 (OpenSpec.ofChange Rows.tokenBlanksSpec) false w args)
   (Rows.tokenBlanksSpec.post enc Tryz.prog Tryz.f9 false true false false) := by
 refine returnsInHanded_of_change_and (C := Tryz.checked) (X := fun w _ => laidMetH Tryz.prog Rows.tokenBlanksRow.laid w) (fun _ _ _ hh h => h.of_heap hh) own started (by kernel_rfl) Tryz.func9
  (ChangeSpec.witness_shaped (enc := enc) (C := Tryz.checked) (os := os) (X := fun w _ => laidMetH Tryz.prog Rows.tokenBlanksRow.laid w) false (World.laidAll Tryz.prog os Rows.tokenBlanksRow.laid) #[.string ⟨#[]⟩] 8 (World.laidAll_os _ _ _) (World.shaped_of_ZipB (by kernel_rfl) (by kernel_rfl)) (by kernel_rfl) (by kernel_rfl) (by kernel_rfl) (qtx os _)) ?_
 intro W base args ds gs before hval0 hW _ _ hL _
 have hval : ∀ (j : Nat) t v, Tryz.f9.params[j]? = some t → args[j]? = some v → Value.okWide Tryz.prog W .any base t v := hval0
 have hW' := hW
 obtain ⟨p, q, hA0, hV, rfl, hfz, hnd⟩ := hW
 have hA : DataW.TrodAll enc Tryz.prog W 0 (fun _ => true) true Tryz.f9.params.toList args.toList ds p := hA0
 have hlt := hW'.lt
 have hG := H09.globs_of (W := W) (I0 := fun b o => MemPlace.cell b o ∈ p) hL
 obtain ⟨dd, avs, hfit, hrel⟩ := qm4 (qs := [9]) (by kernel_rfl) (I := fun b o => MemPlace.cell b o ∈ p ∨ ∃ cs, Globs.g b = some cs ∧ o < cs.length) (ps := [(false, [.str])]) qFj (by kernel_rfl) hA (fun j t v ht hv => hval j t v (by simpa using ht) (by simpa using hv)) (fun b o h => .inl h)
 obtain ⟨n, hn⟩ := qFh hfit
 have hcall := qrV H09.progOk (W := W) (qy9 hG fun b o (h : MemPlace.cell b o ∈ p) => hlt _ (List.mem_append_left _ h)) (qy8 hG) hrel hn
 rw [Tryz.params9] at hA
 obtain ⟨v0, vs0, d0, ds0, p0, q0, hargs, rfl, rfl, h0, r0⟩ := trodAll_cons hA
 obtain ⟨rfl, rfl, rfl⟩ := trodAll_nil r0
 obtain ⟨rfl, rfl⟩ := trodVars_none hV
 refine hcall.mono fun e W' ⟨he, hb⟩ => ?_
 exact ⟨_, he, qt7 laid qFi rfl rfl (by kernel_rfl) rfl rfl rfl hW' hb⟩
theorem qFe : Rows.TokenBlanksSaid :=
 OpenClaim.holds_of_wide 9 Tryz.f9 rfl rfl rfl rfl rfl rfl rfl ⟨rfl, rfl, rfl, rfl, rfl⟩ rfl rfl rfl rfl rfl (by kernel_rfl) Tryz.func9 (by kernel_rfl)
  (of_decide_eq_true (by kernel_rfl)) (by unfold Func.isWrapper; first | (rw [if_pos (by decide +kernel)]; kernel_rfl) | (rw [if_neg (by decide +kernel)]; exact ⟨rfl, rfl⟩))
  (fun os started H enc _ => qFg os started H enc)
theorem TokenBlanks_holds : Rows.TokenBlanksCardSaid :=
 Claim7.holds_tied_plain_at .later [] [.data, .data, .data, .data, .sentinel, .sentinel, .listed, .data, .pinned] true (true, "d15288922e3957ccf88c2193be2082afd1fbc586afe57e80d4068688c23d23b6") true
  qFe (fun _ h => by cases h) (by kernel_rfl) (fun _ h => by cases h) tokenBlanks_row_tie rfl ⟨rfl, rfl⟩ (by kernel_rfl) rfl
  (fun f fn hf hfn => by
   obtain rfl : f = 9 := Option.some.inj ((show Tryz.prog.funcNamed Rows.tokenBlanksRow.func = some 9 by kernel_rfl).symm.trans hf) |>.symm
   obtain rfl : fn = Tryz.f9 := (Option.some.inj (Tryz.func9.symm.trans hfn)).symm
   exact ⟨by kernel_rfl, fun j t ht => by
    have hm : t ∈ ([9] : List TypeId) := qFj t (by simpa using Array.mem_of_getElem? ht)
    have hall : (([9] : List TypeId).all fun u => !Tryz.prog.wantsStandIn u) = true := by kernel_rfl
    exact (show Tryz.prog.wantsStandIn t = false by simpa using List.all_eq_true.1 hall t hm)⟩)
  (by kernel_rfl)
#print axioms TokenBlanks_holds
end Go.Proofs.YtoeknkhpjdomhaaGreatDoor
