/-
  DERIVED. GIVEN WITH THE SEED: THE CARDS: each row of YtpghcedmmpcfeabGreatDoorRows.lean that lists a variable, with what it lists TIED to the program's text (the seventh form; the later family's looks); each row that meets fmt, with fmt's text TOLD by the authors' own Lean function (tested against real Go, not proved from fmt's source: count such statements apart). THE CARD IS WHAT COUNTS. Prove the row's statement (the work); the ties are given (YtpghcedmmpcfeabGreatDoorTie.lean); close each card by the builder's one call (the guide's Derived/Test/ToyasCard.lean, 'card_holds'). Laid BY PROGRAM, IN A SANDBOX (cutbox-door.mjs). By AI agents, Wed Nov 11 2026. No macro, syntax, notation, axiom, sorry.
-/
import Derived.Test.YtpghcedmmpcfeabGreatDoorRows
import GoSem.ClaimSeven
namespace Go.Proofs.YtpghcedmmpcfeabGreatDoor
namespace Rows

/-- THE TIED CARD OF 'bushellaw04.BinParts'. -/
def binPartsCard : Claim7 := { stood := { row := binPartsRow, standIns := [], harness := (true, "4ec118f4c1eaefc6fa9b58c62b802b3ed4512d222f6b17d65751c167d57a1a79"), looks := true }, kinds := [], alts := [], laidByText := true, laidKinds := [.data, .data, .data, .data, .sentinel, .sentinel, .pinned], laidTests := true, laidLooks := .later }
def BinPartsCardSaid : Prop := Claim7.holds Tryz.pinned (.plain (OpenSpec.ofChange binPartsSpec)) binPartsCard

/-- THE SECOND FORM's CARD OF 'bushellaw04.BinParts'. -/
def binPartsUptoCard : Claim7 := { stood := { row := binPartsUptoRow, standIns := [], harness := (true, "4ec118f4c1eaefc6fa9b58c62b802b3ed4512d222f6b17d65751c167d57a1a79"), looks := true }, kinds := [], alts := [], laidByText := true, laidKinds := [.data, .data, .data, .data, .sentinel, .sentinel, .pinned], laidTests := true, laidLooks := .later }
def BinPartsUptoCardSaid : Prop := Claim7.holds Tryz.pinned (.plain (OpenSpec.upto binPartsSpec)) binPartsUptoCard
end Rows
end Go.Proofs.YtpghcedmmpcfeabGreatDoor
