/-
  DERIVED. GIVEN WITH THE SEED: THE CARDS: each row of YtmpdcldckjeklaaGreatDoorRows.lean that lists a variable, with what it lists TIED to the program's text (the seventh form; the later family's looks); each row that meets fmt, with fmt's text TOLD by the authors' own Lean function (tested against real Go, not proved from fmt's source: count such statements apart). THE CARD IS WHAT COUNTS. Prove the row's statement (the work); the ties are given (YtmpdcldckjeklaaGreatDoorTie.lean); close each card by the builder's one call (the guide's Derived/Test/ToyasCard.lean, 'card_holds'). Laid BY PROGRAM, IN A SANDBOX (cutbox-door.mjs). By AI agents, Wed Nov 11 2026. No macro, syntax, notation, axiom, sorry.
-/
import Derived.Test.YtmpdcldckjeklaaGreatDoorRows
import GoSem.ClaimSeven
namespace Go.Proofs.YtmpdcldckjeklaaGreatDoor
namespace Rows

/-- THE TIED CARD OF 'bushellaw10.TerminalTexts'. -/
def terminalTextsCard : Claim7 := { stood := { row := terminalTextsRow, standIns := [], harness := (true, "99bd0c17cdc57299cb9f72dbaf2b77fffc7dd2a6a2f16e186bf03ca33d9644f9"), looks := true }, kinds := [], alts := [], laidByText := true, laidKinds := [.data, .data, .data, .data, .sentinel, .sentinel, .pinned], laidTests := true, laidLooks := .later }
def TerminalTextsCardSaid : Prop := Claim7.holds Tryz.pinned (.plain (OpenSpec.ofChange terminalTextsSpec)) terminalTextsCard

/-- THE SECOND FORM's CARD OF 'bushellaw10.TerminalTexts'. -/
def terminalTextsUptoCard : Claim7 := { stood := { row := terminalTextsUptoRow, standIns := [], harness := (true, "99bd0c17cdc57299cb9f72dbaf2b77fffc7dd2a6a2f16e186bf03ca33d9644f9"), looks := true }, kinds := [], alts := [], laidByText := true, laidKinds := [.data, .data, .data, .data, .sentinel, .sentinel, .pinned], laidTests := true, laidLooks := .later }
def TerminalTextsUptoCardSaid : Prop := Claim7.holds Tryz.pinned (.plain (OpenSpec.upto terminalTextsSpec)) terminalTextsUptoCard
end Rows
end Go.Proofs.YtmpdcldckjeklaaGreatDoor
