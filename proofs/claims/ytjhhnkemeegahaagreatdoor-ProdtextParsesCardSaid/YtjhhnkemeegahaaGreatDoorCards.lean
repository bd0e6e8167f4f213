/-
  DERIVED. GIVEN WITH THE SEED: THE CARDS: each row of YtjhhnkemeegahaaGreatDoorRows.lean that lists a variable, with what it lists TIED to the program's text (the seventh form; the later family's looks); each row that meets fmt, with fmt's text TOLD by the authors' own Lean function (tested against real Go, not proved from fmt's source: count such statements apart). THE CARD IS WHAT COUNTS. Prove the row's statement (the work); the ties are given (YtjhhnkemeegahaaGreatDoorTie.lean); close each card by the builder's one call (the guide's Derived/Test/ToyasCard.lean, 'card_holds'). Laid BY PROGRAM, IN A SANDBOX (cutbox-door.mjs). By AI agents, Wed Nov 11 2026. No macro, syntax, notation, axiom, sorry.
-/
import Derived.Test.YtjhhnkemeegahaaGreatDoorRows
import GoSem.ClaimSeven
namespace Go.Proofs.YtjhhnkemeegahaaGreatDoor
namespace Rows

/-- THE TIED CARD OF 'corebanklaw16.ProdtextPrints'. -/
def prodtextPrintsCard : Claim7 := { stood := { row := prodtextPrintsRow, standIns := [], harness := (true, "21a8a277ffebdc8025f12c6b01c4c301a30e41ad927ca1c2ef7a3c7e7b388459"), looks := true }, kinds := [], alts := [], laidByText := true, laidKinds := [.data, .data, .data, .data, .sentinel, .sentinel, .listed, .data, .pinned, .pinned], laidTests := true, laidLooks := .later }
def ProdtextPrintsCardSaid : Prop := Claim7.holds Tryz.pinned (.plain (OpenSpec.ofChange prodtextPrintsSpec)) prodtextPrintsCard

/-- THE TIED CARD OF 'corebanklaw16.ProdtextParses'. -/
def prodtextParsesCard : Claim7 := { stood := { row := prodtextParsesRow, standIns := [], harness := (true, "21a8a277ffebdc8025f12c6b01c4c301a30e41ad927ca1c2ef7a3c7e7b388459"), looks := true }, kinds := [], alts := [], laidByText := true, laidKinds := [.data, .data, .data, .data, .sentinel, .sentinel, .listed, .data, .pinned, .pinned], laidTests := true, laidLooks := .later }
def ProdtextParsesCardSaid : Prop := Claim7.holds Tryz.pinned (.plain (OpenSpec.ofChange prodtextParsesSpec)) prodtextParsesCard

/-- THE TIED CARD OF 'corebanklaw16.ProdtextRoundTrips'. -/
def prodtextRoundTripsCard : Claim7 := { stood := { row := prodtextRoundTripsRow, standIns := [], harness := (true, "21a8a277ffebdc8025f12c6b01c4c301a30e41ad927ca1c2ef7a3c7e7b388459"), looks := true }, kinds := [], alts := [], laidByText := true, laidKinds := [.data, .data, .data, .data, .sentinel, .sentinel, .listed, .data, .pinned, .pinned], laidTests := true, laidLooks := .later }
def ProdtextRoundTripsCardSaid : Prop := Claim7.holds Tryz.pinned (.plain (OpenSpec.ofChange prodtextRoundTripsSpec)) prodtextRoundTripsCard

/-- THE TIED CARD OF 'corebanklaw16.ProdtextCanonical'. -/
def prodtextCanonicalCard : Claim7 := { stood := { row := prodtextCanonicalRow, standIns := [], harness := (true, "21a8a277ffebdc8025f12c6b01c4c301a30e41ad927ca1c2ef7a3c7e7b388459"), looks := true }, kinds := [], alts := [], laidByText := true, laidKinds := [.data, .data, .data, .data, .sentinel, .sentinel, .listed, .data, .pinned, .pinned], laidTests := true, laidLooks := .later }
def ProdtextCanonicalCardSaid : Prop := Claim7.holds Tryz.pinned (.plain (OpenSpec.ofChange prodtextCanonicalSpec)) prodtextCanonicalCard

/-- THE SECOND FORM's CARD OF 'corebanklaw16.ProdtextPrints'. -/
def prodtextPrintsUptoCard : Claim7 := { stood := { row := prodtextPrintsUptoRow, standIns := [], harness := (true, "21a8a277ffebdc8025f12c6b01c4c301a30e41ad927ca1c2ef7a3c7e7b388459"), looks := true }, kinds := [], alts := [], laidByText := true, laidKinds := [.data, .data, .data, .data, .sentinel, .sentinel, .listed, .data, .pinned, .pinned], laidTests := true, laidLooks := .later }
def ProdtextPrintsUptoCardSaid : Prop := Claim7.holds Tryz.pinned (.plain (OpenSpec.upto prodtextPrintsSpec)) prodtextPrintsUptoCard

/-- THE SECOND FORM's CARD OF 'corebanklaw16.ProdtextParses'. -/
def prodtextParsesUptoCard : Claim7 := { stood := { row := prodtextParsesUptoRow, standIns := [], harness := (true, "21a8a277ffebdc8025f12c6b01c4c301a30e41ad927ca1c2ef7a3c7e7b388459"), looks := true }, kinds := [], alts := [], laidByText := true, laidKinds := [.data, .data, .data, .data, .sentinel, .sentinel, .listed, .data, .pinned, .pinned], laidTests := true, laidLooks := .later }
def ProdtextParsesUptoCardSaid : Prop := Claim7.holds Tryz.pinned (.plain (OpenSpec.upto prodtextParsesSpec)) prodtextParsesUptoCard

/-- THE SECOND FORM's CARD OF 'corebanklaw16.ProdtextRoundTrips'. -/
def prodtextRoundTripsUptoCard : Claim7 := { stood := { row := prodtextRoundTripsUptoRow, standIns := [], harness := (true, "21a8a277ffebdc8025f12c6b01c4c301a30e41ad927ca1c2ef7a3c7e7b388459"), looks := true }, kinds := [], alts := [], laidByText := true, laidKinds := [.data, .data, .data, .data, .sentinel, .sentinel, .listed, .data, .pinned, .pinned], laidTests := true, laidLooks := .later }
def ProdtextRoundTripsUptoCardSaid : Prop := Claim7.holds Tryz.pinned (.plain (OpenSpec.upto prodtextRoundTripsSpec)) prodtextRoundTripsUptoCard

/-- THE SECOND FORM's CARD OF 'corebanklaw16.ProdtextCanonical'. -/
def prodtextCanonicalUptoCard : Claim7 := { stood := { row := prodtextCanonicalUptoRow, standIns := [], harness := (true, "21a8a277ffebdc8025f12c6b01c4c301a30e41ad927ca1c2ef7a3c7e7b388459"), looks := true }, kinds := [], alts := [], laidByText := true, laidKinds := [.data, .data, .data, .data, .sentinel, .sentinel, .listed, .data, .pinned, .pinned], laidTests := true, laidLooks := .later }
def ProdtextCanonicalUptoCardSaid : Prop := Claim7.holds Tryz.pinned (.plain (OpenSpec.upto prodtextCanonicalSpec)) prodtextCanonicalUptoCard
end Rows
end Go.Proofs.YtjhhnkemeegahaaGreatDoor
