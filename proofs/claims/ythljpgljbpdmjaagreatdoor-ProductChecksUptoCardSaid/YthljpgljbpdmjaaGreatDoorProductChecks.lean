/- 'ProductChecks' returns true for every input whose bulk is at most 1048576, and each argument reads behind the call as it read before. No condition beside the bulk but what the row lists of the package's variables, and the card ties that. -/
import Derived.Test.YthljpgljbpdmjaaGreatDoorJ15c
import Derived.Test.YthljpgljbpdmjaaGreatDoorCards
import Derived.Test.YthljpgljbpdmjaaGreatDoorTie
import Derived.ProofKit
import Derived.LaidMore
import Derived.Lay
import Derived.MakeChecks
import Derived.OpenShut
import Derived.Stop.Joined
import Derived.SevenTiedAt
import Derived.Deep.DeepHandedRow
import Derived.Deep.DeepWitnessRowRef
import Derived.Test.YthljpgljbpdmjaaGreatDoorE4
set_option linter.unusedVariables false
set_option linter.unusedSimpArgs false
set_option linter.unnecessarySimpa false
namespace Go.Proofs.YthljpgljbpdmjaaGreatDoor
open Go Go.ChangeShapes Go.WideShapes Go.ChangeAt Go.RowKit Go.Eng
set_option maxRecDepth 100000
theorem own : ownKnob Tryz.prog.godebug = none := by kernel_rfl
theorem laid : laidOutB Tryz.prog = true := by kernel_rfl
theorem qUb : ∀ t ∈ Tryz.f4.params.toList, Tryz.prog.readableRec t = true ∧ t < Tryz.prog.types.size := by
 have h : (Tryz.f4.params.toList.all fun t => Tryz.prog.readableRec t && decide (t < Tryz.prog.types.size)) = true := by kernel_rfl
 intro t ht
 have := List.all_eq_true.1 h t ht
 simpa using this
theorem qUW : ∀ t ∈ Tryz.f4.params.toList, t ∈ ([34, 35, 36, 48, 80, 62, 64, 60, 50, 53, 3] : List TypeId) := by
 have h : (Tryz.f4.params.toList.all fun t => ([34, 35, 36, 48, 80, 62, 64, 60, 50, 53, 3] : List TypeId).contains t) = true := by kernel_rfl
 intro t ht
 simpa using List.all_eq_true.1 h t ht
mutual
theorem qoK {H : Type} : ∀ d : DataW H, Rows.uptoBulk d = qcx d
 | .lit l => by cases l <;> rfl
 | .nil => rfl
 | .ptr d => by simp only [Rows.uptoBulk, qcx, qoK d]
 | .slice es sp => by simp only [Rows.uptoBulk, qcx, qgP es, qgP sp]
 | .agg ps => by simp only [Rows.uptoBulk, qcx, qgP ps]
 | .iface t d => by simp only [Rows.uptoBulk, qcx, qoK d]
 | .map es => by simp only [Rows.uptoBulk, qcx, qqF es]
 | .held h => rfl
theorem qgP {H : Type} : ∀ l : List (DataW H), Rows.uptoBulkAll l = qcb l
 | [] => rfl
 | d :: r => by simp only [Rows.uptoBulkAll, qcb, qoK d, qgP r]
theorem qqF {H : Type} : ∀ l : List (Lit × DataW H), Rows.uptoBulkEntries l = qep l
 | [] => rfl
 | x :: r => by simp only [Rows.uptoBulkEntries, qep, qFW x, qqF r]
theorem qFW {H : Type} : ∀ x : Lit × DataW H, Rows.uptoBulkEntry x = qjO x
 | (l, d) => by cases l <;> simp only [Rows.uptoBulkEntry, qjO, qoK d]
end
theorem qPF {d : Nat} {avs : List AV} (h : qLF (Fit 1048576 (shT Tryz.prog) d) [(true, H15c.shP), (false, [.slice 2 true 50]), (false, [.slice 3 true 53])] avs) : ∃ n, (qay H15c.IP n).1 4 avs [] = some (.ret (.bool true), []) :=
 qeN.1 (H15c.law4 h)
theorem qF1 (os : Os) (args : Array Value) : laidMetH Tryz.prog Rows.productChecksUptoRow.laid ((World.laidAll Tryz.prog os Rows.productChecksUptoRow.laid).forCall (fun _ _ => 0) ⟨#[], args, []⟩).memory := by
 rw [MakeChecks.laidMetH_plain _ _ _ (by kernel_rfl)]
 exact laidMet_laidAll args (by kernel_rfl) (by kernel_rfl)
theorem qzZ (H : Type) (enc : TypeId × Value → H) (W : World) (base : Nat) (args : Array Value) (ds gs : List (DataW H)) (before : List MemPlace)
  (hval0 : ∀ (j : Nat) t v, Tryz.f4.params[j]? = some t → args[j]? = some v → Value.okWide Tryz.prog W .any base t v)
  (hW : DataW.Whole enc Tryz.prog Tryz.f4.params.toList Rows.productChecksSpec.vars false W args.toList ds gs before) (hL : laidMetH Tryz.prog Rows.productVarsRow.laid W) (hk : Rows.uptoBulkAll (ds ++ gs) ≤ 1048576) :
  Calls Tryz.prog 4 args W fun e W' => ∃ v, e = .returned v ∧ Rows.productChecksSpec.post enc Tryz.prog Tryz.f4 false true false false W args v W' := by
 have hval : ∀ (j : Nat) t v, Tryz.f4.params[j]? = some t → args[j]? = some v → Value.okWide Tryz.prog W .any base t v := hval0
 have hW' := hW
 obtain ⟨p, q, hA0, hV, rfl, hfz, hnd⟩ := hW
 have hA : DataW.TrodAll enc Tryz.prog W 0 (fun _ => true) true Tryz.f4.params.toList args.toList ds p := hA0
 have hlt := hW'.lt
 have hG := H15c.globs_of (W := W) (I0 := fun b o => MemPlace.cell b o ∈ p) hL
 obtain ⟨rfl, rfl⟩ := trodVars_none hV
 rw [List.append_nil, qgP] at hk
 obtain ⟨dd, avs, hfit, hrel⟩ := qqC (N := 1048576) (qs := [34, 35, 36, 48, 80, 62, 64, 60, 50, 53, 3]) (by kernel_rfl) (I := fun b o => MemPlace.cell b o ∈ p ∨ ∃ cs, Globs.g b = some cs ∧ o < cs.length) (ps := [(true, H15c.shP), (false, [.slice 2 true 50]), (false, [.slice 3 true 53])]) qUW (by kernel_rfl) hA (fun j t v ht hv => hval j t v (by simpa using ht) (by simpa using hv)) (fun b o h => .inl h) hk
 obtain ⟨n, hn⟩ := qPF hfit
 have hcall := qBU H15c.progOk (W := W) (qMS hG fun b o (h : MemPlace.cell b o ∈ p) => hlt _ (List.mem_append_left _ h)) (qMR hG) hrel hn
 rw [Tryz.params4] at hA
 obtain ⟨v0, vs0, d0, ds0, p0, q0, hargs, rfl, rfl, h0, r0⟩ := trodAll_cons hA
 obtain ⟨v1, vs1, d1, ds1, p1, q1, rfl, rfl, rfl, h1, r1⟩ := trodAll_cons r0
 obtain ⟨v2, vs2, d2, ds2, p2, q2, rfl, rfl, rfl, h2, r2⟩ := trodAll_cons r1
 obtain ⟨rfl, rfl, rfl⟩ := trodAll_nil r2
 refine hcall.mono fun e W' ⟨he, hb⟩ => ?_
 exact ⟨_, he, qGi laid qUb rfl rfl (by kernel_rfl) rfl rfl rfl hW' hb⟩
set_option maxRecDepth 100000 in
theorem qMY (os : Os) (started : os.Started) (H : Type) (enc : TypeId × Value → H) (F : Stop.Interp) :
  ReturnsInHanded {} Tryz.checked os 4 .any ((Rows.OpenSpec.upto Rows.productChecksSpec).preRow enc Tryz.prog Tryz.f4 Rows.productChecksUptoRow.domain false Rows.productChecksUptoRow.laid) (((Rows.OpenSpec.upto Rows.productChecksSpec).at F).post enc Tryz.prog Tryz.f4 false true false false) := by
 have hs : (DataW.whole enc Tryz.prog ((World.laidAll Tryz.prog os Rows.productChecksUptoRow.laid).forCall (fun _ _ => 0) ⟨#[], #[.agg #[.string ⟨#[]⟩, .string ⟨#[]⟩, .string ⟨#[]⟩, .int .i64 0, .int .i64 0, .int .i64 0, .int .i64 0, .slice none 0 0, .bool false, .int .i64 0, .int .i64 0, .bool false, .slice none 0 0, .bool false, .int .i64 0, .int .i64 0, .bool false, .slice none 0 0, .slice none 0 0], .slice none 0 0, .slice none 0 0], []⟩).memory Tryz.f4.params.toList Rows.productChecksSpec.vars false (#[.agg #[.string ⟨#[]⟩, .string ⟨#[]⟩, .string ⟨#[]⟩, .int .i64 0, .int .i64 0, .int .i64 0, .int .i64 0, .slice none 0 0, .bool false, .int .i64 0, .int .i64 0, .bool false, .slice none 0 0, .bool false, .int .i64 0, .int .i64 0, .bool false, .slice none 0 0, .slice none 0 0], .slice none 0 0, .slice none 0 0] : Array Value).toList 8).isSome = true := by kernel_rfl
 refine returnsInHanded_of_row (C := Tryz.checked) (s := Rows.OpenSpec.upto Rows.productChecksSpec) own started (by kernel_rfl) Tryz.func4
  (witness_row_atRef (enc := enc) (C := Tryz.checked) false (World.laidAll Tryz.prog os Rows.productChecksUptoRow.laid) #[.agg #[.string ⟨#[]⟩, .string ⟨#[]⟩, .string ⟨#[]⟩, .int .i64 0, .int .i64 0, .int .i64 0, .int .i64 0, .slice none 0 0, .bool false, .int .i64 0, .int .i64 0, .bool false, .slice none 0 0, .bool false, .int .i64 0, .int .i64 0, .bool false, .slice none 0 0, .slice none 0 0], .slice none 0 0, .slice none 0 0] (World.laidAll_os _ _ _) (by kernel_rfl) (by kernel_rfl) (by kernel_rfl)
   (OpenSpec.preRow_of_cond 8 (x := Option.get _ hs) (Option.some_get hs).symm (by kernel_rfl) (fun k hk => by cases hk; kernel_rfl) (by kernel_rfl) (qF1 os _))) ?_
 intro W base args ds gs before hval hW _ hk _ hL _ _
 exact qzZ H enc W base args ds gs before hval hW hL (of_decide_eq_true (hk _ rfl))
theorem qhp : Rows.ProductChecksUptoSaid :=
 OpenClaim.holds_of_cond 4 Tryz.f4 rfl rfl rfl rfl rfl rfl rfl ⟨rfl, rfl, rfl, rfl, rfl⟩ rfl rfl rfl rfl rfl (by kernel_rfl) Tryz.func4 (by kernel_rfl)
  (of_decide_eq_true (by kernel_rfl)) (by unfold Func.isWrapper; first | (rw [if_pos (by decide +kernel)]; kernel_rfl) | (rw [if_neg (by decide +kernel)]; exact ⟨rfl, rfl⟩))
  (fun os started H enc _ F => by rw [OpenClaim.pre_eq_preRow]; exact qMY os started H enc F)
theorem ProductChecks_holds : Rows.ProductChecksUptoCardSaid :=
 Claim7.holds_tied_plain_at .later [] [.data, .data, .data, .sentinel, .sentinel, .listed, .data] true (true, "87b189dac35b6b83b2290809b3a8928b8fe12da5b83ff17223404fc1f316c701") true
  qhp (fun _ h => by cases h) (by kernel_rfl) (fun _ h => by cases h) productChecksUpto_row_tie rfl ⟨rfl, rfl⟩ (by kernel_rfl) rfl
  (fun f fn hf hfn => by
   obtain rfl : f = 4 := Option.some.inj ((show Tryz.prog.funcNamed Rows.productChecksUptoRow.func = some 4 by kernel_rfl).symm.trans hf) |>.symm
   obtain rfl : fn = Tryz.f4 := (Option.some.inj (Tryz.func4.symm.trans hfn)).symm
   exact ⟨by kernel_rfl, fun j t ht => by
    have hm : t ∈ ([34, 35, 36, 48, 80, 62, 64, 60, 50, 53, 3] : List TypeId) := qUW t (by simpa using Array.mem_of_getElem? ht)
    have hall : (([34, 35, 36, 48, 80, 62, 64, 60, 50, 53, 3] : List TypeId).all fun u => !Tryz.prog.wantsStandIn u) = true := by kernel_rfl
    exact (show Tryz.prog.wantsStandIn t = false by simpa using List.all_eq_true.1 hall t hm)⟩)
  (by kernel_rfl)
#print axioms ProductChecks_holds
end Go.Proofs.YthljpgljbpdmjaaGreatDoor
