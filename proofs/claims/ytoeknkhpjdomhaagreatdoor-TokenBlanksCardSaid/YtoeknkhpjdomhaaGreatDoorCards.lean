/-
  DERIVED. GIVEN WITH THE SEED: THE CARDS: each row of YtoeknkhpjdomhaaGreatDoorRows.lean that lists a variable, with what it lists TIED to the program's text (the seventh form; the later family's looks); each row that meets fmt, with fmt's text TOLD by the authors' own Lean function (tested against real Go, not proved from fmt's source: count such statements apart). THE CARD IS WHAT COUNTS. Prove the row's statement (the work); the ties are given (YtoeknkhpjdomhaaGreatDoorTie.lean); close each card by the builder's one call (the guide's Derived/Test/ToyasCard.lean, 'card_holds'). Laid BY PROGRAM, IN A SANDBOX (cutbox-door.mjs). By AI agents, Wed Nov 11 2026. No macro, syntax, notation, axiom, sorry.
-/
import Derived.Test.YtoeknkhpjdomhaaGreatDoorRows
import GoSem.ClaimSeven
namespace Go.Proofs.YtoeknkhpjdomhaaGreatDoor
namespace Rows

/-- THE TIED CARD OF 'corebanklaw09.TokenWords'. -/
def tokenWordsCard : Claim7 := { stood := { row := tokenWordsRow, standIns := [], harness := (true, "d15288922e3957ccf88c2193be2082afd1fbc586afe57e80d4068688c23d23b6"), looks := true }, kinds := [], alts := [], laidByText := true, laidKinds := [.data, .data, .data, .data, .sentinel, .sentinel, .listed, .data, .pinned], laidTests := true, laidLooks := .later }
def TokenWordsCardSaid : Prop := Claim7.holds Tryz.pinned (.plain (OpenSpec.ofChange tokenWordsSpec)) tokenWordsCard

/-- THE TIED CARD OF 'corebanklaw09.TokenReads'. -/
def tokenReadsCard : Claim7 := { stood := { row := tokenReadsRow, standIns := [], harness := (true, "d15288922e3957ccf88c2193be2082afd1fbc586afe57e80d4068688c23d23b6"), looks := true }, kinds := [], alts := [], laidByText := true, laidKinds := [.data, .data, .data, .data, .sentinel, .sentinel, .listed, .data, .pinned], laidTests := true, laidLooks := .later }
def TokenReadsCardSaid : Prop := Claim7.holds Tryz.pinned (.plain (OpenSpec.ofChange tokenReadsSpec)) tokenReadsCard

/-- THE TIED CARD OF 'corebanklaw09.TokenJoins'. -/
def tokenJoinsCard : Claim7 := { stood := { row := tokenJoinsRow, standIns := [], harness := (true, "d15288922e3957ccf88c2193be2082afd1fbc586afe57e80d4068688c23d23b6"), looks := true }, kinds := [], alts := [], laidByText := true, laidKinds := [.data, .data, .data, .data, .sentinel, .sentinel, .listed, .data, .pinned], laidTests := true, laidLooks := .later }
def TokenJoinsCardSaid : Prop := Claim7.holds Tryz.pinned (.plain (OpenSpec.ofChange tokenJoinsSpec)) tokenJoinsCard

/-- THE TIED CARD OF 'corebanklaw09.TokenRoundTrips'. -/
def tokenRoundTripsCard : Claim7 := { stood := { row := tokenRoundTripsRow, standIns := [], harness := (true, "d15288922e3957ccf88c2193be2082afd1fbc586afe57e80d4068688c23d23b6"), looks := true }, kinds := [], alts := [], laidByText := true, laidKinds := [.data, .data, .data, .data, .sentinel, .sentinel, .listed, .data, .pinned], laidTests := true, laidLooks := .later }
def TokenRoundTripsCardSaid : Prop := Claim7.holds Tryz.pinned (.plain (OpenSpec.ofChange tokenRoundTripsSpec)) tokenRoundTripsCard

/-- THE TIED CARD OF 'corebanklaw09.TokenRates'. -/
def tokenRatesCard : Claim7 := { stood := { row := tokenRatesRow, standIns := [], harness := (true, "d15288922e3957ccf88c2193be2082afd1fbc586afe57e80d4068688c23d23b6"), looks := true }, kinds := [], alts := [], laidByText := true, laidKinds := [.data, .data, .data, .data, .sentinel, .sentinel, .listed, .data, .pinned], laidTests := true, laidLooks := .later }
def TokenRatesCardSaid : Prop := Claim7.holds Tryz.pinned (.plain (OpenSpec.ofChange tokenRatesSpec)) tokenRatesCard

/-- THE TIED CARD OF 'corebanklaw09.TokenPercents'. -/
def tokenPercentsCard : Claim7 := { stood := { row := tokenPercentsRow, standIns := [], harness := (true, "d15288922e3957ccf88c2193be2082afd1fbc586afe57e80d4068688c23d23b6"), looks := true }, kinds := [], alts := [], laidByText := true, laidKinds := [.data, .data, .data, .data, .sentinel, .sentinel, .listed, .data, .pinned], laidTests := true, laidLooks := .later }
def TokenPercentsCardSaid : Prop := Claim7.holds Tryz.pinned (.plain (OpenSpec.ofChange tokenPercentsSpec)) tokenPercentsCard

/-- THE TIED CARD OF 'corebanklaw09.TokenBlanks'. -/
def tokenBlanksCard : Claim7 := { stood := { row := tokenBlanksRow, standIns := [], harness := (true, "d15288922e3957ccf88c2193be2082afd1fbc586afe57e80d4068688c23d23b6"), looks := true }, kinds := [], alts := [], laidByText := true, laidKinds := [.data, .data, .data, .data, .sentinel, .sentinel, .listed, .data, .pinned], laidTests := true, laidLooks := .later }
def TokenBlanksCardSaid : Prop := Claim7.holds Tryz.pinned (.plain (OpenSpec.ofChange tokenBlanksSpec)) tokenBlanksCard

/-- THE SECOND FORM's CARD OF 'corebanklaw09.TokenWords'. -/
def tokenWordsUptoCard : Claim7 := { stood := { row := tokenWordsUptoRow, standIns := [], harness := (true, "d15288922e3957ccf88c2193be2082afd1fbc586afe57e80d4068688c23d23b6"), looks := true }, kinds := [], alts := [], laidByText := true, laidKinds := [.data, .data, .data, .data, .sentinel, .sentinel, .listed, .data, .pinned], laidTests := true, laidLooks := .later }
def TokenWordsUptoCardSaid : Prop := Claim7.holds Tryz.pinned (.plain (OpenSpec.upto tokenWordsSpec)) tokenWordsUptoCard

/-- THE SECOND FORM's CARD OF 'corebanklaw09.TokenReads'. -/
def tokenReadsUptoCard : Claim7 := { stood := { row := tokenReadsUptoRow, standIns := [], harness := (true, "d15288922e3957ccf88c2193be2082afd1fbc586afe57e80d4068688c23d23b6"), looks := true }, kinds := [], alts := [], laidByText := true, laidKinds := [.data, .data, .data, .data, .sentinel, .sentinel, .listed, .data, .pinned], laidTests := true, laidLooks := .later }
def TokenReadsUptoCardSaid : Prop := Claim7.holds Tryz.pinned (.plain (OpenSpec.upto tokenReadsSpec)) tokenReadsUptoCard

/-- THE SECOND FORM's CARD OF 'corebanklaw09.TokenJoins'. -/
def tokenJoinsUptoCard : Claim7 := { stood := { row := tokenJoinsUptoRow, standIns := [], harness := (true, "d15288922e3957ccf88c2193be2082afd1fbc586afe57e80d4068688c23d23b6"), looks := true }, kinds := [], alts := [], laidByText := true, laidKinds := [.data, .data, .data, .data, .sentinel, .sentinel, .listed, .data, .pinned], laidTests := true, laidLooks := .later }
def TokenJoinsUptoCardSaid : Prop := Claim7.holds Tryz.pinned (.plain (OpenSpec.upto tokenJoinsSpec)) tokenJoinsUptoCard

/-- THE SECOND FORM's CARD OF 'corebanklaw09.TokenRoundTrips'. -/
def tokenRoundTripsUptoCard : Claim7 := { stood := { row := tokenRoundTripsUptoRow, standIns := [], harness := (true, "d15288922e3957ccf88c2193be2082afd1fbc586afe57e80d4068688c23d23b6"), looks := true }, kinds := [], alts := [], laidByText := true, laidKinds := [.data, .data, .data, .data, .sentinel, .sentinel, .listed, .data, .pinned], laidTests := true, laidLooks := .later }
def TokenRoundTripsUptoCardSaid : Prop := Claim7.holds Tryz.pinned (.plain (OpenSpec.upto tokenRoundTripsSpec)) tokenRoundTripsUptoCard

/-- THE SECOND FORM's CARD OF 'corebanklaw09.TokenRates'. -/
def tokenRatesUptoCard : Claim7 := { stood := { row := tokenRatesUptoRow, standIns := [], harness := (true, "d15288922e3957ccf88c2193be2082afd1fbc586afe57e80d4068688c23d23b6"), looks := true }, kinds := [], alts := [], laidByText := true, laidKinds := [.data, .data, .data, .data, .sentinel, .sentinel, .listed, .data, .pinned], laidTests := true, laidLooks := .later }
def TokenRatesUptoCardSaid : Prop := Claim7.holds Tryz.pinned (.plain (OpenSpec.upto tokenRatesSpec)) tokenRatesUptoCard

/-- THE SECOND FORM's CARD OF 'corebanklaw09.TokenPercents'. -/
def tokenPercentsUptoCard : Claim7 := { stood := { row := tokenPercentsUptoRow, standIns := [], harness := (true, "d15288922e3957ccf88c2193be2082afd1fbc586afe57e80d4068688c23d23b6"), looks := true }, kinds := [], alts := [], laidByText := true, laidKinds := [.data, .data, .data, .data, .sentinel, .sentinel, .listed, .data, .pinned], laidTests := true, laidLooks := .later }
def TokenPercentsUptoCardSaid : Prop := Claim7.holds Tryz.pinned (.plain (OpenSpec.upto tokenPercentsSpec)) tokenPercentsUptoCard

/-- THE SECOND FORM's CARD OF 'corebanklaw09.TokenBlanks'. -/
def tokenBlanksUptoCard : Claim7 := { stood := { row := tokenBlanksUptoRow, standIns := [], harness := (true, "d15288922e3957ccf88c2193be2082afd1fbc586afe57e80d4068688c23d23b6"), looks := true }, kinds := [], alts := [], laidByText := true, laidKinds := [.data, .data, .data, .data, .sentinel, .sentinel, .listed, .data, .pinned], laidTests := true, laidLooks := .later }
def TokenBlanksUptoCardSaid : Prop := Claim7.holds Tryz.pinned (.plain (OpenSpec.upto tokenBlanksSpec)) tokenBlanksUptoCard
end Rows
end Go.Proofs.YtoeknkhpjdomhaaGreatDoor
