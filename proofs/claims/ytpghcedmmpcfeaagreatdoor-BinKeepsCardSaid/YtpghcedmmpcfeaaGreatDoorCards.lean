/-
  DERIVED. GIVEN WITH THE SEED: THE CARDS: each row of YtpghcedmmpcfeaaGreatDoorRows.lean that lists a variable, with what it lists TIED to the program's text (the seventh form; the later family's looks); each row that meets fmt, with fmt's text TOLD by the authors' own Lean function (tested against real Go, not proved from fmt's source: count such statements apart). THE CARD IS WHAT COUNTS. Prove the row's statement (the work); the ties are given (YtpghcedmmpcfeaaGreatDoorTie.lean); close each card by the builder's one call (the guide's Derived/Test/ToyasCard.lean, 'card_holds'). Laid BY PROGRAM, IN A SANDBOX (cutbox-door.mjs). By AI agents, Wed Nov 11 2026. No macro, syntax, notation, axiom, sorry.
-/
import Derived.Test.YtpghcedmmpcfeaaGreatDoorRows
import GoSem.ClaimSeven
namespace Go.Proofs.YtpghcedmmpcfeaaGreatDoor
namespace Rows

/-- THE TIED CARD OF 'bushellaw04.BinKeeps'. -/
def binKeepsCard : Claim7 := { stood := { row := binKeepsRow, standIns := [], harness := (true, "8dc3412b9d3aeb6abd4756ee3f3c470bc68b442a6d04cc1e20ad7ad93b584ac8"), looks := true }, kinds := [], alts := [], laidByText := true, laidKinds := [.data, .data, .data, .data, .sentinel, .sentinel, .pinned], laidTests := true, laidLooks := .later }
def BinKeepsCardSaid : Prop := Claim7.holds Tryz.pinned (.plain (OpenSpec.ofChange binKeepsSpec)) binKeepsCard

/-- THE SECOND FORM's CARD OF 'bushellaw04.BinKeeps'. -/
def binKeepsUptoCard : Claim7 := { stood := { row := binKeepsUptoRow, standIns := [], harness := (true, "8dc3412b9d3aeb6abd4756ee3f3c470bc68b442a6d04cc1e20ad7ad93b584ac8"), looks := true }, kinds := [], alts := [], laidByText := true, laidKinds := [.data, .data, .data, .data, .sentinel, .sentinel, .pinned], laidTests := true, laidLooks := .later }
def BinKeepsUptoCardSaid : Prop := Claim7.holds Tryz.pinned (.plain (OpenSpec.upto binKeepsSpec)) binKeepsUptoCard
end Rows
end Go.Proofs.YtpghcedmmpcfeaaGreatDoor
