/-
  DERIVED. GIVEN WITH THE SEED: THE CARDS: each row of YtaoojbnciofmcabGreatDoorRows.lean that lists a variable, with what it lists TIED to the program's text (the seventh form; the later family's looks); each row that meets fmt, with fmt's text TOLD by the authors' own Lean function (tested against real Go, not proved from fmt's source: count such statements apart). THE CARD IS WHAT COUNTS. Prove the row's statement (the work); the ties are given (YtaoojbnciofmcabGreatDoorTie.lean); close each card by the builder's one call (the guide's Derived/Test/ToyasCard.lean, 'card_holds'). Laid BY PROGRAM, IN A SANDBOX (cutbox-door.mjs). By AI agents, Wed Nov 11 2026. No macro, syntax, notation, axiom, sorry.
-/
import Derived.Test.YtaoojbnciofmcabGreatDoorRows
import GoSem.ClaimSeven
namespace Go.Proofs.YtaoojbnciofmcabGreatDoor
namespace Rows

/-- THE TIED CARD OF 'bushellaw04.BinDraws'. -/
def binDrawsCard : Claim7 := { stood := { row := binDrawsRow, standIns := [], harness := (true, "91660899b0d0b991f3fed95068a06a86115dbce07ad4b09db4d130c95958fd1a"), looks := true }, kinds := [], alts := [], laidByText := true, laidKinds := [.data, .data, .data, .data, .sentinel, .sentinel, .pinned], laidTests := true, laidLooks := .later }
def BinDrawsCardSaid : Prop := Claim7.holds Tryz.pinned (.plain (OpenSpec.ofChange binDrawsSpec)) binDrawsCard

/-- THE SECOND FORM's CARD OF 'bushellaw04.BinDraws'. -/
def binDrawsUptoCard : Claim7 := { stood := { row := binDrawsUptoRow, standIns := [], harness := (true, "91660899b0d0b991f3fed95068a06a86115dbce07ad4b09db4d130c95958fd1a"), looks := true }, kinds := [], alts := [], laidByText := true, laidKinds := [.data, .data, .data, .data, .sentinel, .sentinel, .pinned], laidTests := true, laidLooks := .later }
def BinDrawsUptoCardSaid : Prop := Claim7.holds Tryz.pinned (.plain (OpenSpec.upto binDrawsSpec)) binDrawsUptoCard
end Rows
end Go.Proofs.YtaoojbnciofmcabGreatDoor
