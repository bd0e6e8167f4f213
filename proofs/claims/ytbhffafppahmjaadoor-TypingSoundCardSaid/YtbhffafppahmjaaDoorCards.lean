/-
  DERIVED. GIVEN WITH THE SEED: THE CARDS: each row of YtbhffafppahmjaaDoorRows.lean that lists a variable, with what it lists TIED to the program's text (the seventh form; the later family's looks); each row that meets fmt, with fmt's text TOLD by the authors' own Lean function (tested against real Go, not proved from fmt's source: count such statements apart). THE CARD IS WHAT COUNTS. Prove the row's statement (the work); the ties are given (YtbhffafppahmjaaDoorTie.lean); close each card by the builder's one call (the guide's Derived/Test/ToyasCard.lean, 'card_holds'). Laid BY PROGRAM, IN A SANDBOX (cutbox-door.mjs). By AI agents, Wed Nov 11 2026. No macro, syntax, notation, axiom, sorry.
-/
import Derived.Test.YtbhffafppahmjaaDoorRows
import GoSem.ClaimSeven
namespace Go.Proofs.YtbhffafppahmjaaDoor
namespace Rows

/-- THE TIED CARD OF 'corebanklaw11.TypingResults'. -/
def typingResultsCard : Claim7 := { stood := { row := typingResultsRow, standIns := [], harness := (true, "91f3999e734598df1a4f8140e60e68de4511a590946a1472bf2d953aae138b31"), looks := true }, kinds := [], alts := [], laidByText := true, laidKinds := [.data, .data, .data, .sentinel, .sentinel, .listed, .data], laidTests := true, laidLooks := .later }
def TypingResultsCardSaid : Prop := Claim7.holds Tryd.pinned (.plain (OpenSpec.ofChange typingResultsSpec)) typingResultsCard

/-- THE TIED CARD OF 'corebanklaw11.TypingSound'. -/
def typingSoundCard : Claim7 := { stood := { row := typingSoundRow, standIns := [], harness := (true, "91f3999e734598df1a4f8140e60e68de4511a590946a1472bf2d953aae138b31"), looks := true }, kinds := [], alts := [], laidByText := true, laidKinds := [.data, .data, .data, .sentinel, .sentinel, .listed, .data], laidTests := true, laidLooks := .later }
def TypingSoundCardSaid : Prop := Claim7.holds Tryd.pinned (.plain (OpenSpec.ofChange typingSoundSpec)) typingSoundCard

/-- THE SECOND FORM's CARD OF 'corebanklaw11.TypingResults'. -/
def typingResultsUptoCard : Claim7 := { stood := { row := typingResultsUptoRow, standIns := [], harness := (true, "91f3999e734598df1a4f8140e60e68de4511a590946a1472bf2d953aae138b31"), looks := true }, kinds := [], alts := [], laidByText := true, laidKinds := [.data, .data, .data, .sentinel, .sentinel, .listed, .data], laidTests := true, laidLooks := .later }
def TypingResultsUptoCardSaid : Prop := Claim7.holds Tryd.pinned (.plain (OpenSpec.upto typingResultsSpec)) typingResultsUptoCard

/-- THE SECOND FORM's CARD OF 'corebanklaw11.TypingSound'. -/
def typingSoundUptoCard : Claim7 := { stood := { row := typingSoundUptoRow, standIns := [], harness := (true, "91f3999e734598df1a4f8140e60e68de4511a590946a1472bf2d953aae138b31"), looks := true }, kinds := [], alts := [], laidByText := true, laidKinds := [.data, .data, .data, .sentinel, .sentinel, .listed, .data], laidTests := true, laidLooks := .later }
def TypingSoundUptoCardSaid : Prop := Claim7.holds Tryd.pinned (.plain (OpenSpec.upto typingSoundSpec)) typingSoundUptoCard
end Rows
end Go.Proofs.YtbhffafppahmjaaDoor
