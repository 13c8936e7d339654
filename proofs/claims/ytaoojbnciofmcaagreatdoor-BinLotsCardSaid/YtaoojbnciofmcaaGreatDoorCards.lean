/-
  DERIVED. GIVEN WITH THE SEED: THE CARDS: each row of YtaoojbnciofmcaaGreatDoorRows.lean that lists a variable, with what it lists TIED to the program's text (the seventh form; the later family's looks); each row that meets fmt, with fmt's text TOLD by the authors' own Lean function (tested against real Go, not proved from fmt's source: count such statements apart). THE CARD IS WHAT COUNTS. Prove the row's statement (the work); the ties are given (YtaoojbnciofmcaaGreatDoorTie.lean); close each card by the builder's one call (the guide's Derived/Test/ToyasCard.lean, 'card_holds'). Laid BY PROGRAM, IN A SANDBOX (cutbox-door.mjs). By AI agents, Wed Nov 11 2026. No macro, syntax, notation, axiom, sorry.
-/
import Derived.Test.YtaoojbnciofmcaaGreatDoorRows
import GoSem.ClaimSeven
namespace Go.Proofs.YtaoojbnciofmcaaGreatDoor
namespace Rows

/-- THE TIED CARD OF 'bushellaw04.BinLots'. -/
def binLotsCard : Claim7 := { stood := { row := binLotsRow, standIns := [], harness := (true, "761372c2bfafc5b648a237f8a7e51f3d035bdd35cf2e9996bdd140e854c6db1b"), looks := true }, kinds := [], alts := [], laidByText := true, laidKinds := [.data, .data, .data, .data, .sentinel, .sentinel, .pinned], laidTests := true, laidLooks := .later }
def BinLotsCardSaid : Prop := Claim7.holds Tryz.pinned (.plain (OpenSpec.ofChange binLotsSpec)) binLotsCard

/-- THE SECOND FORM's CARD OF 'bushellaw04.BinLots'. -/
def binLotsUptoCard : Claim7 := { stood := { row := binLotsUptoRow, standIns := [], harness := (true, "761372c2bfafc5b648a237f8a7e51f3d035bdd35cf2e9996bdd140e854c6db1b"), looks := true }, kinds := [], alts := [], laidByText := true, laidKinds := [.data, .data, .data, .data, .sentinel, .sentinel, .pinned], laidTests := true, laidLooks := .later }
def BinLotsUptoCardSaid : Prop := Claim7.holds Tryz.pinned (.plain (OpenSpec.upto binLotsSpec)) binLotsUptoCard
end Rows
end Go.Proofs.YtaoojbnciofmcaaGreatDoor
