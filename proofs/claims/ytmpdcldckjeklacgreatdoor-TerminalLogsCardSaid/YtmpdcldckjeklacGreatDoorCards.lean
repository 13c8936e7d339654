/-
  DERIVED. GIVEN WITH THE SEED: THE CARDS: each row of YtmpdcldckjeklacGreatDoorRows.lean that lists a variable, with what it lists TIED to the program's text (the seventh form; the later family's looks); each row that meets fmt, with fmt's text TOLD by the authors' own Lean function (tested against real Go, not proved from fmt's source: count such statements apart). THE CARD IS WHAT COUNTS. Prove the row's statement (the work); the ties are given (YtmpdcldckjeklacGreatDoorTie.lean); close each card by the builder's one call (the guide's Derived/Test/ToyasCard.lean, 'card_holds'). Laid BY PROGRAM, IN A SANDBOX (cutbox-door.mjs). By AI agents, Wed Nov 11 2026. No macro, syntax, notation, axiom, sorry.
-/
import Derived.Test.YtmpdcldckjeklacGreatDoorRows
import GoSem.ClaimSeven
namespace Go.Proofs.YtmpdcldckjeklacGreatDoor
namespace Rows

/-- THE TIED CARD OF 'bushellaw10.TerminalLogs'. -/
def terminalLogsCard : Claim7 := { stood := { row := terminalLogsRow, standIns := [], harness := (true, "ef1375771270021129467cf1ead1735369106ebd9298cf70a263c651c6879d5a"), looks := true }, kinds := [], alts := [], laidByText := true, laidKinds := [.data, .data, .data, .data, .sentinel, .sentinel, .pinned], laidTests := true, laidLooks := .later }
def TerminalLogsCardSaid : Prop := Claim7.holds Tryz.pinned (.plain (OpenSpec.ofChange terminalLogsSpec)) terminalLogsCard

/-- THE SECOND FORM's CARD OF 'bushellaw10.TerminalLogs'. -/
def terminalLogsUptoCard : Claim7 := { stood := { row := terminalLogsUptoRow, standIns := [], harness := (true, "ef1375771270021129467cf1ead1735369106ebd9298cf70a263c651c6879d5a"), looks := true }, kinds := [], alts := [], laidByText := true, laidKinds := [.data, .data, .data, .data, .sentinel, .sentinel, .pinned], laidTests := true, laidLooks := .later }
def TerminalLogsUptoCardSaid : Prop := Claim7.holds Tryz.pinned (.plain (OpenSpec.upto terminalLogsSpec)) terminalLogsUptoCard
end Rows
end Go.Proofs.YtmpdcldckjeklacGreatDoor
