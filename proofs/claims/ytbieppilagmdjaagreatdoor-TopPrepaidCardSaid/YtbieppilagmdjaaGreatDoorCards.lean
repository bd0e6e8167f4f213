/-
  DERIVED. GIVEN WITH THE SEED: THE CARDS: each row of YtbieppilagmdjaaGreatDoorRows.lean that lists a variable, with what it lists TIED to the program's text (the seventh form; the later family's looks); each row that meets fmt, with fmt's text TOLD by the authors' own Lean function (tested against real Go, not proved from fmt's source: count such statements apart). THE CARD IS WHAT COUNTS. Prove the row's statement (the work); the ties are given (YtbieppilagmdjaaGreatDoorTie.lean); close each card by the builder's one call (the guide's Derived/Test/ToyasCard.lean, 'card_holds'). Laid BY PROGRAM, IN A SANDBOX (cutbox-door.mjs). By AI agents, Wed Nov 11 2026. No macro, syntax, notation, axiom, sorry.
-/
import Derived.Test.YtbieppilagmdjaaGreatDoorRows
import GoSem.ClaimSeven
namespace Go.Proofs.YtbieppilagmdjaaGreatDoor
namespace Rows

/-- THE TIED CARD OF 'corebanktop.TopPrepaid'. -/
def topPrepaidCard : Claim7 := { stood := { row := topPrepaidRow, standIns := [], harness := (true, "82dc0e35e8e515d8dee0b5d98502bd61365e172679e4384b65afae0bf81af831"), looks := true }, kinds := [], alts := [], laidByText := true, laidKinds := [.data, .data, .data, .data, .sentinel, .sentinel, .listed, .data], laidTests := true, laidLooks := .later }
def TopPrepaidCardSaid : Prop := Claim7.holds Tryz.pinned (.plain (OpenSpec.ofChange topPrepaidSpec)) topPrepaidCard

/-- THE SECOND FORM's CARD OF 'corebanktop.TopPrepaid'. -/
def topPrepaidUptoCard : Claim7 := { stood := { row := topPrepaidUptoRow, standIns := [], harness := (true, "82dc0e35e8e515d8dee0b5d98502bd61365e172679e4384b65afae0bf81af831"), looks := true }, kinds := [], alts := [], laidByText := true, laidKinds := [.data, .data, .data, .data, .sentinel, .sentinel, .listed, .data], laidTests := true, laidLooks := .later }
def TopPrepaidUptoCardSaid : Prop := Claim7.holds Tryz.pinned (.plain (OpenSpec.upto topPrepaidSpec)) topPrepaidUptoCard
end Rows
end Go.Proofs.YtbieppilagmdjaaGreatDoor
