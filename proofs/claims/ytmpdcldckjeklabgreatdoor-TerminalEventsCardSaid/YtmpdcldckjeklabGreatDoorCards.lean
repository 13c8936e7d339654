/-
  DERIVED. GIVEN WITH THE SEED: THE CARDS: each row of YtmpdcldckjeklabGreatDoorRows.lean that lists a variable, with what it lists TIED to the program's text (the seventh form; the later family's looks); each row that meets fmt, with fmt's text TOLD by the authors' own Lean function (tested against real Go, not proved from fmt's source: count such statements apart). THE CARD IS WHAT COUNTS. Prove the row's statement (the work); the ties are given (YtmpdcldckjeklabGreatDoorTie.lean); close each card by the builder's one call (the guide's Derived/Test/ToyasCard.lean, 'card_holds'). Laid BY PROGRAM, IN A SANDBOX (cutbox-door.mjs). By AI agents, Wed Nov 11 2026. No macro, syntax, notation, axiom, sorry.
-/
import Derived.Test.YtmpdcldckjeklabGreatDoorRows
import GoSem.ClaimSeven
namespace Go.Proofs.YtmpdcldckjeklabGreatDoor
namespace Rows

/-- THE TIED CARD OF 'bushellaw10.TerminalEvents'. -/
def terminalEventsCard : Claim7 := { stood := { row := terminalEventsRow, standIns := [], harness := (true, "0d5c2a90a927ff3b5380925fdf51b316bcb3361c5addc6dc68f9bdadbbe7f027"), looks := true }, kinds := [], alts := [], laidByText := true, laidKinds := [.data, .data, .data, .data, .sentinel, .sentinel, .pinned], laidTests := true, laidLooks := .later }
def TerminalEventsCardSaid : Prop := Claim7.holds Tryz.pinned (.plain (OpenSpec.ofChange terminalEventsSpec)) terminalEventsCard

/-- THE SECOND FORM's CARD OF 'bushellaw10.TerminalEvents'. -/
def terminalEventsUptoCard : Claim7 := { stood := { row := terminalEventsUptoRow, standIns := [], harness := (true, "0d5c2a90a927ff3b5380925fdf51b316bcb3361c5addc6dc68f9bdadbbe7f027"), looks := true }, kinds := [], alts := [], laidByText := true, laidKinds := [.data, .data, .data, .data, .sentinel, .sentinel, .pinned], laidTests := true, laidLooks := .later }
def TerminalEventsUptoCardSaid : Prop := Claim7.holds Tryz.pinned (.plain (OpenSpec.upto terminalEventsSpec)) terminalEventsUptoCard
end Rows
end Go.Proofs.YtmpdcldckjeklabGreatDoor
