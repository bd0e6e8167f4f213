/-
  DERIVED. GIVEN WITH THE SEED: THE CARDS: each row of YthljpgljbpdmjaaGreatDoorRows.lean that lists a variable, with what it lists TIED to the program's text (the seventh form; the later family's looks); each row that meets fmt, with fmt's text TOLD by the authors' own Lean function (tested against real Go, not proved from fmt's source: count such statements apart). THE CARD IS WHAT COUNTS. Prove the row's statement (the work); the ties are given (YthljpgljbpdmjaaGreatDoorTie.lean); close each card by the builder's one call (the guide's Derived/Test/ToyasCard.lean, 'card_holds'). Laid BY PROGRAM, IN A SANDBOX (cutbox-door.mjs). By AI agents, Wed Nov 11 2026. No macro, syntax, notation, axiom, sorry.
-/
import Derived.Test.YthljpgljbpdmjaaGreatDoorRows
import GoSem.ClaimSeven
namespace Go.Proofs.YthljpgljbpdmjaaGreatDoor
namespace Rows

/-- THE TIED CARD OF 'corebanklaw15.ProductVars'. -/
def productVarsCard : Claim7 := { stood := { row := productVarsRow, standIns := [], harness := (true, "87b189dac35b6b83b2290809b3a8928b8fe12da5b83ff17223404fc1f316c701"), looks := true }, kinds := [], alts := [], laidByText := true, laidKinds := [.data, .data, .data, .sentinel, .sentinel, .listed, .data], laidTests := true, laidLooks := .later }
def ProductVarsCardSaid : Prop := Claim7.holds Tryz.pinned (.plain (OpenSpec.ofChange productVarsSpec)) productVarsCard

/-- THE TIED CARD OF 'corebanklaw15.ProductChecks'. -/
def productChecksCard : Claim7 := { stood := { row := productChecksRow, standIns := [], harness := (true, "87b189dac35b6b83b2290809b3a8928b8fe12da5b83ff17223404fc1f316c701"), looks := true }, kinds := [], alts := [], laidByText := true, laidKinds := [.data, .data, .data, .sentinel, .sentinel, .listed, .data], laidTests := true, laidLooks := .later }
def ProductChecksCardSaid : Prop := Claim7.holds Tryz.pinned (.plain (OpenSpec.ofChange productChecksSpec)) productChecksCard

/-- THE TIED CARD OF 'corebanklaw15.ProductSides'. -/
def productSidesCard : Claim7 := { stood := { row := productSidesRow, standIns := [], harness := (true, "87b189dac35b6b83b2290809b3a8928b8fe12da5b83ff17223404fc1f316c701"), looks := true }, kinds := [], alts := [], laidByText := true, laidKinds := [.data, .data, .data, .sentinel, .sentinel, .listed, .data], laidTests := true, laidLooks := .later }
def ProductSidesCardSaid : Prop := Claim7.holds Tryz.pinned (.plain (OpenSpec.ofChange productSidesSpec)) productSidesCard

/-- THE TIED CARD OF 'corebanklaw15.ProductEquals'. -/
def productEqualsCard : Claim7 := { stood := { row := productEqualsRow, standIns := [], harness := (true, "87b189dac35b6b83b2290809b3a8928b8fe12da5b83ff17223404fc1f316c701"), looks := true }, kinds := [], alts := [], laidByText := true, laidKinds := [.data, .data, .data, .sentinel, .sentinel, .listed, .data], laidTests := true, laidLooks := .later }
def ProductEqualsCardSaid : Prop := Claim7.holds Tryz.pinned (.plain (OpenSpec.ofChange productEqualsSpec)) productEqualsCard

/-- THE TIED CARD OF 'corebanklaw15.ProductTotal'. -/
def productTotalCard : Claim7 := { stood := { row := productTotalRow, standIns := [], harness := (true, "87b189dac35b6b83b2290809b3a8928b8fe12da5b83ff17223404fc1f316c701"), looks := true }, kinds := [], alts := [], laidByText := true, laidKinds := [.data, .data, .data, .data, .sentinel, .sentinel, .listed, .data], laidTests := true, laidLooks := .later }
def ProductTotalCardSaid : Prop := Claim7.holds Tryz.pinned (.plain (OpenSpec.ofChange productTotalSpec)) productTotalCard

/-- THE SECOND FORM's CARD OF 'corebanklaw15.ProductVars'. -/
def productVarsUptoCard : Claim7 := { stood := { row := productVarsUptoRow, standIns := [], harness := (true, "87b189dac35b6b83b2290809b3a8928b8fe12da5b83ff17223404fc1f316c701"), looks := true }, kinds := [], alts := [], laidByText := true, laidKinds := [.data, .data, .data, .sentinel, .sentinel, .listed, .data], laidTests := true, laidLooks := .later }
def ProductVarsUptoCardSaid : Prop := Claim7.holds Tryz.pinned (.plain (OpenSpec.upto productVarsSpec)) productVarsUptoCard

/-- THE SECOND FORM's CARD OF 'corebanklaw15.ProductChecks'. -/
def productChecksUptoCard : Claim7 := { stood := { row := productChecksUptoRow, standIns := [], harness := (true, "87b189dac35b6b83b2290809b3a8928b8fe12da5b83ff17223404fc1f316c701"), looks := true }, kinds := [], alts := [], laidByText := true, laidKinds := [.data, .data, .data, .sentinel, .sentinel, .listed, .data], laidTests := true, laidLooks := .later }
def ProductChecksUptoCardSaid : Prop := Claim7.holds Tryz.pinned (.plain (OpenSpec.upto productChecksSpec)) productChecksUptoCard

/-- THE SECOND FORM's CARD OF 'corebanklaw15.ProductSides'. -/
def productSidesUptoCard : Claim7 := { stood := { row := productSidesUptoRow, standIns := [], harness := (true, "87b189dac35b6b83b2290809b3a8928b8fe12da5b83ff17223404fc1f316c701"), looks := true }, kinds := [], alts := [], laidByText := true, laidKinds := [.data, .data, .data, .sentinel, .sentinel, .listed, .data], laidTests := true, laidLooks := .later }
def ProductSidesUptoCardSaid : Prop := Claim7.holds Tryz.pinned (.plain (OpenSpec.upto productSidesSpec)) productSidesUptoCard

/-- THE SECOND FORM's CARD OF 'corebanklaw15.ProductEquals'. -/
def productEqualsUptoCard : Claim7 := { stood := { row := productEqualsUptoRow, standIns := [], harness := (true, "87b189dac35b6b83b2290809b3a8928b8fe12da5b83ff17223404fc1f316c701"), looks := true }, kinds := [], alts := [], laidByText := true, laidKinds := [.data, .data, .data, .sentinel, .sentinel, .listed, .data], laidTests := true, laidLooks := .later }
def ProductEqualsUptoCardSaid : Prop := Claim7.holds Tryz.pinned (.plain (OpenSpec.upto productEqualsSpec)) productEqualsUptoCard

/-- THE SECOND FORM's CARD OF 'corebanklaw15.ProductTotal'. -/
def productTotalUptoCard : Claim7 := { stood := { row := productTotalUptoRow, standIns := [], harness := (true, "87b189dac35b6b83b2290809b3a8928b8fe12da5b83ff17223404fc1f316c701"), looks := true }, kinds := [], alts := [], laidByText := true, laidKinds := [.data, .data, .data, .data, .sentinel, .sentinel, .listed, .data], laidTests := true, laidLooks := .later }
def ProductTotalUptoCardSaid : Prop := Claim7.holds Tryz.pinned (.plain (OpenSpec.upto productTotalSpec)) productTotalUptoCard
end Rows
end Go.Proofs.YthljpgljbpdmjaaGreatDoor
