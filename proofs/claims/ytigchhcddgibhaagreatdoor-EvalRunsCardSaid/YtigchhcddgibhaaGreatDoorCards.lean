/-
  DERIVED. GIVEN WITH THE SEED: THE CARDS: each row of YtigchhcddgibhaaGreatDoorRows.lean that lists a variable, with what it lists TIED to the program's text (the seventh form; the later family's looks); each row that meets fmt, with fmt's text TOLD by the authors' own Lean function (tested against real Go, not proved from fmt's source: count such statements apart). THE CARD IS WHAT COUNTS. Prove the row's statement (the work); the ties are given (YtigchhcddgibhaaGreatDoorTie.lean); close each card by the builder's one call (the guide's Derived/Test/ToyasCard.lean, 'card_holds'). Laid BY PROGRAM, IN A SANDBOX (cutbox-door.mjs). By AI agents, Wed Nov 11 2026. No macro, syntax, notation, axiom, sorry.
-/
import Derived.Test.YtigchhcddgibhaaGreatDoorRows
import GoSem.ClaimSeven
namespace Go.Proofs.YtigchhcddgibhaaGreatDoor
namespace Rows

/-- THE TIED CARD OF 'corebanklaw13.EvalApplies'. -/
def evalAppliesCard : Claim7 := { stood := { row := evalAppliesRow, standIns := [], harness := (true, "5be6375b4f2e0925b668340d43fb0e0e0253e543f8ae87de0092ca17f7a57bff"), looks := true }, kinds := [], alts := [], laidByText := true, laidKinds := [.data, .data, .data, .data, .sentinel, .sentinel, .listed, .data], laidTests := true, laidLooks := .later }
def EvalAppliesCardSaid : Prop := Claim7.holds Tryz.pinned (.plain (OpenSpec.ofChange evalAppliesSpec)) evalAppliesCard

/-- THE TIED CARD OF 'corebanklaw13.EvalTrees'. -/
def evalTreesCard : Claim7 := { stood := { row := evalTreesRow, standIns := [], harness := (true, "5be6375b4f2e0925b668340d43fb0e0e0253e543f8ae87de0092ca17f7a57bff"), looks := true }, kinds := [], alts := [], laidByText := true, laidKinds := [.data, .data, .data, .data, .sentinel, .sentinel, .listed, .data], laidTests := true, laidLooks := .later }
def EvalTreesCardSaid : Prop := Claim7.holds Tryz.pinned (.plain (OpenSpec.ofChange evalTreesSpec)) evalTreesCard

/-- THE TIED CARD OF 'corebanklaw13.EvalRuns'. -/
def evalRunsCard : Claim7 := { stood := { row := evalRunsRow, standIns := [], harness := (true, "5be6375b4f2e0925b668340d43fb0e0e0253e543f8ae87de0092ca17f7a57bff"), looks := true }, kinds := [], alts := [], laidByText := true, laidKinds := [.data, .data, .data, .data, .sentinel, .sentinel, .listed, .data], laidTests := true, laidLooks := .later }
def EvalRunsCardSaid : Prop := Claim7.holds Tryz.pinned (.plain (OpenSpec.ofChange evalRunsSpec)) evalRunsCard

/-- THE TIED CARD OF 'corebanklaw13.EvalAgrees'. -/
def evalAgreesCard : Claim7 := { stood := { row := evalAgreesRow, standIns := [], harness := (true, "5be6375b4f2e0925b668340d43fb0e0e0253e543f8ae87de0092ca17f7a57bff"), looks := true }, kinds := [], alts := [], laidByText := true, laidKinds := [.data, .data, .data, .data, .sentinel, .sentinel, .listed, .data], laidTests := true, laidLooks := .later }
def EvalAgreesCardSaid : Prop := Claim7.holds Tryz.pinned (.plain (OpenSpec.ofChange evalAgreesSpec)) evalAgreesCard

/-- THE TIED CARD OF 'corebanklaw13.EvalKinds'. -/
def evalKindsCard : Claim7 := { stood := { row := evalKindsRow, standIns := [], harness := (true, "5be6375b4f2e0925b668340d43fb0e0e0253e543f8ae87de0092ca17f7a57bff"), looks := true }, kinds := [], alts := [], laidByText := true, laidKinds := [.data, .data, .data, .data, .sentinel, .sentinel, .listed, .data], laidTests := true, laidLooks := .later }
def EvalKindsCardSaid : Prop := Claim7.holds Tryz.pinned (.plain (OpenSpec.ofChange evalKindsSpec)) evalKindsCard

/-- THE TIED CARD OF 'corebanklaw13.EvalLaws'. -/
def evalLawsCard : Claim7 := { stood := { row := evalLawsRow, standIns := [], harness := (true, "5be6375b4f2e0925b668340d43fb0e0e0253e543f8ae87de0092ca17f7a57bff"), looks := true }, kinds := [], alts := [], laidByText := true, laidKinds := [.data, .data, .data, .data, .sentinel, .sentinel, .listed, .data], laidTests := true, laidLooks := .later }
def EvalLawsCardSaid : Prop := Claim7.holds Tryz.pinned (.plain (OpenSpec.ofChange evalLawsSpec)) evalLawsCard

/-- THE SECOND FORM's CARD OF 'corebanklaw13.EvalApplies'. -/
def evalAppliesUptoCard : Claim7 := { stood := { row := evalAppliesUptoRow, standIns := [], harness := (true, "5be6375b4f2e0925b668340d43fb0e0e0253e543f8ae87de0092ca17f7a57bff"), looks := true }, kinds := [], alts := [], laidByText := true, laidKinds := [.data, .data, .data, .data, .sentinel, .sentinel, .listed, .data], laidTests := true, laidLooks := .later }
def EvalAppliesUptoCardSaid : Prop := Claim7.holds Tryz.pinned (.plain (OpenSpec.upto evalAppliesSpec)) evalAppliesUptoCard

/-- THE SECOND FORM's CARD OF 'corebanklaw13.EvalTrees'. -/
def evalTreesUptoCard : Claim7 := { stood := { row := evalTreesUptoRow, standIns := [], harness := (true, "5be6375b4f2e0925b668340d43fb0e0e0253e543f8ae87de0092ca17f7a57bff"), looks := true }, kinds := [], alts := [], laidByText := true, laidKinds := [.data, .data, .data, .data, .sentinel, .sentinel, .listed, .data], laidTests := true, laidLooks := .later }
def EvalTreesUptoCardSaid : Prop := Claim7.holds Tryz.pinned (.plain (OpenSpec.upto evalTreesSpec)) evalTreesUptoCard

/-- THE SECOND FORM's CARD OF 'corebanklaw13.EvalRuns'. -/
def evalRunsUptoCard : Claim7 := { stood := { row := evalRunsUptoRow, standIns := [], harness := (true, "5be6375b4f2e0925b668340d43fb0e0e0253e543f8ae87de0092ca17f7a57bff"), looks := true }, kinds := [], alts := [], laidByText := true, laidKinds := [.data, .data, .data, .data, .sentinel, .sentinel, .listed, .data], laidTests := true, laidLooks := .later }
def EvalRunsUptoCardSaid : Prop := Claim7.holds Tryz.pinned (.plain (OpenSpec.upto evalRunsSpec)) evalRunsUptoCard

/-- THE SECOND FORM's CARD OF 'corebanklaw13.EvalAgrees'. -/
def evalAgreesUptoCard : Claim7 := { stood := { row := evalAgreesUptoRow, standIns := [], harness := (true, "5be6375b4f2e0925b668340d43fb0e0e0253e543f8ae87de0092ca17f7a57bff"), looks := true }, kinds := [], alts := [], laidByText := true, laidKinds := [.data, .data, .data, .data, .sentinel, .sentinel, .listed, .data], laidTests := true, laidLooks := .later }
def EvalAgreesUptoCardSaid : Prop := Claim7.holds Tryz.pinned (.plain (OpenSpec.upto evalAgreesSpec)) evalAgreesUptoCard

/-- THE SECOND FORM's CARD OF 'corebanklaw13.EvalKinds'. -/
def evalKindsUptoCard : Claim7 := { stood := { row := evalKindsUptoRow, standIns := [], harness := (true, "5be6375b4f2e0925b668340d43fb0e0e0253e543f8ae87de0092ca17f7a57bff"), looks := true }, kinds := [], alts := [], laidByText := true, laidKinds := [.data, .data, .data, .data, .sentinel, .sentinel, .listed, .data], laidTests := true, laidLooks := .later }
def EvalKindsUptoCardSaid : Prop := Claim7.holds Tryz.pinned (.plain (OpenSpec.upto evalKindsSpec)) evalKindsUptoCard

/-- THE SECOND FORM's CARD OF 'corebanklaw13.EvalLaws'. -/
def evalLawsUptoCard : Claim7 := { stood := { row := evalLawsUptoRow, standIns := [], harness := (true, "5be6375b4f2e0925b668340d43fb0e0e0253e543f8ae87de0092ca17f7a57bff"), looks := true }, kinds := [], alts := [], laidByText := true, laidKinds := [.data, .data, .data, .data, .sentinel, .sentinel, .listed, .data], laidTests := true, laidLooks := .later }
def EvalLawsUptoCardSaid : Prop := Claim7.holds Tryz.pinned (.plain (OpenSpec.upto evalLawsSpec)) evalLawsUptoCard
end Rows
end Go.Proofs.YtigchhcddgibhaaGreatDoor
