/-
  DERIVED. GIVEN WITH THE SEED: THE CARDS: each row of YtgpbobelbcbcaaaGreatDoorRows.lean that lists a variable, with what it lists TIED to the program's text (the seventh form; the later family's looks); each row that meets fmt, with fmt's text TOLD by the authors' own Lean function (tested against real Go, not proved from fmt's source: count such statements apart). THE CARD IS WHAT COUNTS. Prove the row's statement (the work); the ties are given (YtgpbobelbcbcaaaGreatDoorTie.lean); close each card by the builder's one call (the guide's Derived/Test/ToyasCard.lean, 'card_holds'). Laid BY PROGRAM, IN A SANDBOX (cutbox-door.mjs). By AI agents, Wed Nov 11 2026. No macro, syntax, notation, axiom, sorry.
-/
import Derived.Test.YtgpbobelbcbcaaaGreatDoorRows
import GoSem.ClaimSeven
namespace Go.Proofs.YtgpbobelbcbcaaaGreatDoor
namespace Rows

/-- THE TIED CARD OF 'corebanklaw10.ExprParses'. -/
def exprParsesCard : Claim7 := { stood := { row := exprParsesRow, standIns := [], harness := (true, "52b5830ff041d636e21ceedadd4f2eddea013acae0822ae3e438f5c91a0414ce"), looks := true }, kinds := [], alts := [], laidByText := true, laidKinds := [.data, .data, .data, .data, .sentinel, .sentinel, .listed, .data, .pinned], laidTests := true, laidLooks := .later }
def ExprParsesCardSaid : Prop := Claim7.holds Tryz.pinned (.plain (OpenSpec.ofChange exprParsesSpec)) exprParsesCard

/-- THE TIED CARD OF 'corebanklaw10.ExprTokens'. -/
def exprTokensCard : Claim7 := { stood := { row := exprTokensRow, standIns := [], harness := (true, "52b5830ff041d636e21ceedadd4f2eddea013acae0822ae3e438f5c91a0414ce"), looks := true }, kinds := [], alts := [], laidByText := true, laidKinds := [.data, .data, .data, .data, .sentinel, .sentinel, .listed, .data, .pinned], laidTests := true, laidLooks := .later }
def ExprTokensCardSaid : Prop := Claim7.holds Tryz.pinned (.plain (OpenSpec.ofChange exprTokensSpec)) exprTokensCard

/-- THE TIED CARD OF 'corebanklaw10.ExprParts'. -/
def exprPartsCard : Claim7 := { stood := { row := exprPartsRow, standIns := [], harness := (true, "52b5830ff041d636e21ceedadd4f2eddea013acae0822ae3e438f5c91a0414ce"), looks := true }, kinds := [], alts := [], laidByText := true, laidKinds := [.data, .data, .data, .data, .sentinel, .sentinel, .listed, .data, .pinned], laidTests := true, laidLooks := .later }
def ExprPartsCardSaid : Prop := Claim7.holds Tryz.pinned (.plain (OpenSpec.ofChange exprPartsSpec)) exprPartsCard

/-- THE TIED CARD OF 'corebanklaw10.ExprRoundTrips'. -/
def exprRoundTripsCard : Claim7 := { stood := { row := exprRoundTripsRow, standIns := [], harness := (true, "52b5830ff041d636e21ceedadd4f2eddea013acae0822ae3e438f5c91a0414ce"), looks := true }, kinds := [], alts := [], laidByText := true, laidKinds := [.data, .data, .data, .data, .sentinel, .sentinel, .listed, .data, .pinned], laidTests := true, laidLooks := .later }
def ExprRoundTripsCardSaid : Prop := Claim7.holds Tryz.pinned (.plain (OpenSpec.ofChange exprRoundTripsSpec)) exprRoundTripsCard

/-- THE TIED CARD OF 'corebanklaw10.ExprFewest'. -/
def exprFewestCard : Claim7 := { stood := { row := exprFewestRow, standIns := [], harness := (true, "52b5830ff041d636e21ceedadd4f2eddea013acae0822ae3e438f5c91a0414ce"), looks := true }, kinds := [], alts := [], laidByText := true, laidKinds := [.data, .data, .data, .data, .sentinel, .sentinel, .listed, .data, .pinned], laidTests := true, laidLooks := .later }
def ExprFewestCardSaid : Prop := Claim7.holds Tryz.pinned (.plain (OpenSpec.ofChange exprFewestSpec)) exprFewestCard

/-- THE SECOND FORM's CARD OF 'corebanklaw10.ExprParses'. -/
def exprParsesUptoCard : Claim7 := { stood := { row := exprParsesUptoRow, standIns := [], harness := (true, "52b5830ff041d636e21ceedadd4f2eddea013acae0822ae3e438f5c91a0414ce"), looks := true }, kinds := [], alts := [], laidByText := true, laidKinds := [.data, .data, .data, .data, .sentinel, .sentinel, .listed, .data, .pinned], laidTests := true, laidLooks := .later }
def ExprParsesUptoCardSaid : Prop := Claim7.holds Tryz.pinned (.plain (OpenSpec.upto exprParsesSpec)) exprParsesUptoCard

/-- THE SECOND FORM's CARD OF 'corebanklaw10.ExprTokens'. -/
def exprTokensUptoCard : Claim7 := { stood := { row := exprTokensUptoRow, standIns := [], harness := (true, "52b5830ff041d636e21ceedadd4f2eddea013acae0822ae3e438f5c91a0414ce"), looks := true }, kinds := [], alts := [], laidByText := true, laidKinds := [.data, .data, .data, .data, .sentinel, .sentinel, .listed, .data, .pinned], laidTests := true, laidLooks := .later }
def ExprTokensUptoCardSaid : Prop := Claim7.holds Tryz.pinned (.plain (OpenSpec.upto exprTokensSpec)) exprTokensUptoCard

/-- THE SECOND FORM's CARD OF 'corebanklaw10.ExprParts'. -/
def exprPartsUptoCard : Claim7 := { stood := { row := exprPartsUptoRow, standIns := [], harness := (true, "52b5830ff041d636e21ceedadd4f2eddea013acae0822ae3e438f5c91a0414ce"), looks := true }, kinds := [], alts := [], laidByText := true, laidKinds := [.data, .data, .data, .data, .sentinel, .sentinel, .listed, .data, .pinned], laidTests := true, laidLooks := .later }
def ExprPartsUptoCardSaid : Prop := Claim7.holds Tryz.pinned (.plain (OpenSpec.upto exprPartsSpec)) exprPartsUptoCard

/-- THE SECOND FORM's CARD OF 'corebanklaw10.ExprRoundTrips'. -/
def exprRoundTripsUptoCard : Claim7 := { stood := { row := exprRoundTripsUptoRow, standIns := [], harness := (true, "52b5830ff041d636e21ceedadd4f2eddea013acae0822ae3e438f5c91a0414ce"), looks := true }, kinds := [], alts := [], laidByText := true, laidKinds := [.data, .data, .data, .data, .sentinel, .sentinel, .listed, .data, .pinned], laidTests := true, laidLooks := .later }
def ExprRoundTripsUptoCardSaid : Prop := Claim7.holds Tryz.pinned (.plain (OpenSpec.upto exprRoundTripsSpec)) exprRoundTripsUptoCard

/-- THE SECOND FORM's CARD OF 'corebanklaw10.ExprFewest'. -/
def exprFewestUptoCard : Claim7 := { stood := { row := exprFewestUptoRow, standIns := [], harness := (true, "52b5830ff041d636e21ceedadd4f2eddea013acae0822ae3e438f5c91a0414ce"), looks := true }, kinds := [], alts := [], laidByText := true, laidKinds := [.data, .data, .data, .data, .sentinel, .sentinel, .listed, .data, .pinned], laidTests := true, laidLooks := .later }
def ExprFewestUptoCardSaid : Prop := Claim7.holds Tryz.pinned (.plain (OpenSpec.upto exprFewestSpec)) exprFewestUptoCard
end Rows
end Go.Proofs.YtgpbobelbcbcaaaGreatDoor
