/- 'ProdtextParses' returns true for every input, and each argument reads behind the call as it read before. No condition but what the row lists of the package's variables, and the card ties that. -/
import Derived.Test.YtjhhnkemeegahaaGreatDoorJ16
import Derived.Test.YtjhhnkemeegahaaGreatDoorProdtextParsesFacts
import Derived.Test.YtjhhnkemeegahaaGreatDoorCards
import Derived.Test.YtjhhnkemeegahaaGreatDoorTie
import Derived.LaidMore
import Derived.Lay
set_option linter.all false
namespace Go.Proofs.YtjhhnkemeegahaaGreatDoor
open Go Go.ChangeShapes Go.WideShapes Go.ChangeAt Go.RowKit Go.Eng
theorem own : ownKnob Tryz.prog.godebug = none := by kernel_rfl
theorem laid : laidOutB Tryz.prog = true := by kernel_rfl
theorem zqk : ∀ t ∈ Tryz.f4.params.toList, Tryz.prog.readableRec t = true /\ t < Tryz.prog.types.size := by
 have h : (Tryz.f4.params.toList.all fun t => Tryz.prog.readableRec t && decide (t < Tryz.prog.types.size)) = true := by kernel_rfl
 intro t ht
 have := List.all_eq_true.1 h t ht
 simpa using this
theorem zsL : ∀ t ∈ Tryz.f4.params.toList, t ∈ ([9] : List TypeId) := by
 have h : (Tryz.f4.params.toList.all fun t => ([9] : List TypeId).contains t) = true := by kernel_rfl
 intro t ht
 simpa using List.all_eq_true.1 h t ht
theorem ziS {d : Nat} {avs : List AV} (h : FitP (Fit maxLen (shT Tryz.prog) d) [(false, [.str])] avs) : ∃ n, (qaF H16.IP n).1 4 avs [] = some (.ret (.bool true), []) :=
 qcd.1 (H16.law4 h)
theorem q2S (os : Os) (args : Array Value) : laidMetH Tryz.prog Rows.prodtextParsesRow.laid ((World.laidAll Tryz.prog os Rows.prodtextParsesRow.laid).forCall (fun _ _ => 0) ⟨#[], args, []⟩).memory := by
 rw [MakeChecks.laidMetH_plain _ _ _ (by kernel_rfl)]
 exact laidMet_laidAll args (by kernel_rfl) (by kernel_rfl)
set_option maxRecDepth 100000 in
theorem zdL (os : Os) (started : os.Started) (H : Type) (enc : TypeId × Value -> H) :
  ReturnsInHanded {} Tryz.checked os 4 .any (fun w args => (Rows.prodtextParsesSpec.pre enc Tryz.prog Tryz.f4 Rows.prodtextParsesRow.domain false w args /\ laidMetH Tryz.prog Rows.prodtextParsesRow.laid w) /\ sizedMet enc Tryz.prog Tryz.f4 (OpenSpec.ofChange Rows.prodtextParsesSpec) false w args)
   (Rows.prodtextParsesSpec.post enc Tryz.prog Tryz.f4 false true false false) := by
 refine returnsInHanded_of_change_and (C := Tryz.checked) (X := fun w _ => laidMetH Tryz.prog Rows.prodtextParsesRow.laid w) (fun _ _ _ hh h => h.of_heap hh) own started (by kernel_rfl) Tryz.func4
  (ChangeSpec.witness_shaped (enc := enc) (C := Tryz.checked) (os := os) (X := fun w _ => laidMetH Tryz.prog Rows.prodtextParsesRow.laid w) false (World.laidAll Tryz.prog os Rows.prodtextParsesRow.laid) #[.string ⟨#[]⟩] 8 (World.laidAll_os _ _ _) (World.shaped_of_ZipB (by kernel_rfl) (by kernel_rfl)) (by kernel_rfl) (by kernel_rfl) (by kernel_rfl) (q2S os _)) ?_
 intro W base args ds gs before hval0 hW _ _ hL _
 have hval : ∀ (j : Nat) t v, Tryz.f4.params[j]? = some t -> args[j]? = some v -> Value.okWide Tryz.prog W .any base t v := hval0
 have hW' := hW
 obtain ⟨p, q, hA0, hV, rfl, hfz, hnd⟩ := hW
 have hA : DataW.TrodAll enc Tryz.prog W 0 (fun _ => true) true Tryz.f4.params.toList args.toList ds p := hA0
 have hlt := hW'.lt
 have hG := H16.globs_of (W := W) (I0 := fun b o => MemPlace.cell b o ∈ p) hL
 obtain ⟨dd, avs, hfit, hrel⟩ := qHa (qs := [9]) (by kernel_rfl) (I := fun b o => MemPlace.cell b o ∈ p \/ ∃ cs, Globs.g b = some cs /\ o < cs.length) (ps := [(false, [.str])]) zsL (by kernel_rfl) hA (fun j t v ht hv => hval j t v (by simpa using ht) (by simpa using hv)) (fun b o h => .inl h)
 obtain ⟨n, hn⟩ := ziS hfit
 have hcall := qT2 H16.progOk (W := W) (zdv hG fun b o (h : MemPlace.cell b o ∈ p) => hlt _ (List.mem_append_left _ h)) (zdu hG) hrel hn
 rw [Tryz.params4] at hA
 obtain ⟨v0, vs0, d0, ds0, p0, q0, hargs, rfl, rfl, h0, r0⟩ := trodAll_cons hA
 obtain ⟨rfl, rfl, rfl⟩ := trodAll_nil r0
 obtain ⟨rfl, rfl⟩ := trodVars_none hV
 refine hcall.mono fun e W' ⟨he, hb⟩ => ?_
 exact ⟨_, he, q3o laid zqk rfl rfl (by kernel_rfl) rfl rfl rfl hW' hb⟩
theorem ql5 : Rows.ProdtextParsesSaid :=
 OpenClaim.holds_of_wide 4 Tryz.f4 rfl rfl rfl rfl rfl rfl rfl ⟨rfl, rfl, rfl, rfl, rfl⟩ rfl rfl rfl rfl rfl (by kernel_rfl) Tryz.func4 zjk
  (of_decide_eq_true (by kernel_rfl)) (by unfold Func.isWrapper; first | (rw [if_pos (by decide +kernel)]; kernel_rfl) | (rw [if_neg (by decide +kernel)]; exact ⟨rfl, rfl⟩))
  (fun os started H enc _ => zdL os started H enc)
theorem ProdtextParses_holds : Rows.ProdtextParsesCardSaid :=
 Claim7.holds_tied_plain_at .later [] [.data, .data, .data, .data, .sentinel, .sentinel, .listed, .data, .pinned, .pinned] true (true, "21a8a277ffebdc8025f12c6b01c4c301a30e41ad927ca1c2ef7a3c7e7b388459") true
  ql5 (fun _ h => by cases h) (by kernel_rfl) (fun _ h => by cases h) prodtextParses_row_tie rfl ⟨rfl, rfl⟩ (by kernel_rfl) rfl
  (fun f fn hf hfn => by
   obtain rfl : f = 4 := Option.some.inj ((show Tryz.prog.funcNamed Rows.prodtextParsesRow.func = some 4 by kernel_rfl).symm.trans hf) |>.symm
   obtain rfl : fn = Tryz.f4 := (Option.some.inj (Tryz.func4.symm.trans hfn)).symm
   exact ⟨by kernel_rfl, fun j t ht => by
    have hm : t ∈ ([9] : List TypeId) := zsL t (by simpa using Array.mem_of_getElem? ht)
    have hall : (([9] : List TypeId).all fun u => !Tryz.prog.wantsStandIn u) = true := by kernel_rfl
    exact (show Tryz.prog.wantsStandIn t = false by simpa using List.all_eq_true.1 hall t hm)⟩)
  (by kernel_rfl)
#print axioms ProdtextParses_holds
end Go.Proofs.YtjhhnkemeegahaaGreatDoor
