/-
  DERIVED. GIVEN WITH THE SEED: THE CARDS: each row of YtbfcnlkcimghoaaGreatDoorRows.lean that lists a variable, with what it lists TIED to the program's text (the seventh form; the later family's looks); each row that meets fmt, with fmt's text TOLD by the authors' own Lean function (tested against real Go, not proved from fmt's source: count such statements apart). THE CARD IS WHAT COUNTS. Prove the row's statement (the work); the ties are given (YtbfcnlkcimghoaaGreatDoorTie.lean); close each card by the builder's one call (the guide's Derived/Test/ToyasCard.lean, 'card_holds'). Laid BY PROGRAM, IN A SANDBOX (cutbox-door.mjs). By AI agents, Wed Nov 11 2026. No macro, syntax, notation, axiom, sorry.
-/
import Derived.Test.YtbfcnlkcimghoaaGreatDoorRows
import GoSem.ClaimSeven
namespace Go.Proofs.YtbfcnlkcimghoaaGreatDoor
namespace Rows

/-- THE TIED CARD OF 'busheltop.TopPoured'. -/
def topPouredCard : Claim7 := { stood := { row := topPouredRow, standIns := [], harness := (true, "b616045714e2165416990e00f01849e6ff377a5f8abe7abfb90351d8e43de1ca"), looks := true }, kinds := [], alts := [], laidByText := true, laidKinds := [.data, .data, .data, .data, .sentinel, .sentinel, .pinned], laidTests := true, laidLooks := .later }
def TopPouredCardSaid : Prop := Claim7.holds Tryz.pinned (.plain (OpenSpec.ofChange topPouredSpec)) topPouredCard

/-- THE SECOND FORM's CARD OF 'busheltop.TopPoured'. -/
def topPouredUptoCard : Claim7 := { stood := { row := topPouredUptoRow, standIns := [], harness := (true, "b616045714e2165416990e00f01849e6ff377a5f8abe7abfb90351d8e43de1ca"), looks := true }, kinds := [], alts := [], laidByText := true, laidKinds := [.data, .data, .data, .data, .sentinel, .sentinel, .pinned], laidTests := true, laidLooks := .later }
def TopPouredUptoCardSaid : Prop := Claim7.holds Tryz.pinned (.plain (OpenSpec.upto topPouredSpec)) topPouredUptoCard
end Rows
end Go.Proofs.YtbfcnlkcimghoaaGreatDoor
