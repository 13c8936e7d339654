/-
  DERIVED. GIVEN WITH THE SEED: THE CARDS: each row of YtegpdgcahcikoaaGreatDoorRows.lean that lists a variable, with what it lists TIED to the program's text (the seventh form; the later family's looks); each row that meets fmt, with fmt's text TOLD by the authors' own Lean function (tested against real Go, not proved from fmt's source: count such statements apart). THE CARD IS WHAT COUNTS. Prove the row's statement (the work); the ties are given (YtegpdgcahcikoaaGreatDoorTie.lean); close each card by the builder's one call (the guide's Derived/Test/ToyasCard.lean, 'card_holds'). Laid BY PROGRAM, IN A SANDBOX (cutbox-door.mjs). By AI agents, Wed Nov 11 2026. No macro, syntax, notation, axiom, sorry.
-/
import Derived.Test.YtegpdgcahcikoaaGreatDoorRows
import GoSem.ClaimSeven
namespace Go.Proofs.YtegpdgcahcikoaaGreatDoor
namespace Rows

/-- THE TIED CARD OF 'bushellaw04.BinEmpties'. -/
def binEmptiesCard : Claim7 := { stood := { row := binEmptiesRow, standIns := [], harness := (true, "fce0d88e9b1f3f40cded6335f79931041f2ac798ee54c13be1158ec74f7215b0"), looks := true }, kinds := [], alts := [], laidByText := true, laidKinds := [.data, .data, .data, .data, .sentinel, .sentinel, .pinned], laidTests := true, laidLooks := .later }
def BinEmptiesCardSaid : Prop := Claim7.holds Tryz.pinned (.plain (OpenSpec.ofChange binEmptiesSpec)) binEmptiesCard

/-- THE TIED CARD OF 'bushellaw04.BinKeeps'. -/
def binKeepsCard : Claim7 := { stood := { row := binKeepsRow, standIns := [], harness := (true, "fce0d88e9b1f3f40cded6335f79931041f2ac798ee54c13be1158ec74f7215b0"), looks := true }, kinds := [], alts := [], laidByText := true, laidKinds := [.data, .data, .data, .data, .sentinel, .sentinel, .pinned], laidTests := true, laidLooks := .later }
def BinKeepsCardSaid : Prop := Claim7.holds Tryz.pinned (.plain (OpenSpec.ofChange binKeepsSpec)) binKeepsCard

/-- THE TIED CARD OF 'bushellaw04.BinSteps'. -/
def binStepsCard : Claim7 := { stood := { row := binStepsRow, standIns := [], harness := (true, "fce0d88e9b1f3f40cded6335f79931041f2ac798ee54c13be1158ec74f7215b0"), looks := true }, kinds := [], alts := [], laidByText := true, laidKinds := [.data, .data, .data, .data, .sentinel, .sentinel, .pinned], laidTests := true, laidLooks := .later }
def BinStepsCardSaid : Prop := Claim7.holds Tryz.pinned (.plain (OpenSpec.ofChange binStepsSpec)) binStepsCard

/-- THE TIED CARD OF 'bushellaw04.BinParts'. -/
def binPartsCard : Claim7 := { stood := { row := binPartsRow, standIns := [], harness := (true, "fce0d88e9b1f3f40cded6335f79931041f2ac798ee54c13be1158ec74f7215b0"), looks := true }, kinds := [], alts := [], laidByText := true, laidKinds := [.data, .data, .data, .data, .sentinel, .sentinel, .pinned], laidTests := true, laidLooks := .later }
def BinPartsCardSaid : Prop := Claim7.holds Tryz.pinned (.plain (OpenSpec.ofChange binPartsSpec)) binPartsCard

/-- THE TIED CARD OF 'bushellaw04.BinQueues'. -/
def binQueuesCard : Claim7 := { stood := { row := binQueuesRow, standIns := [], harness := (true, "fce0d88e9b1f3f40cded6335f79931041f2ac798ee54c13be1158ec74f7215b0"), looks := true }, kinds := [], alts := [], laidByText := true, laidKinds := [.data, .data, .data, .data, .sentinel, .sentinel, .pinned], laidTests := true, laidLooks := .later }
def BinQueuesCardSaid : Prop := Claim7.holds Tryz.pinned (.plain (OpenSpec.ofChange binQueuesSpec)) binQueuesCard

/-- THE TIED CARD OF 'bushellaw04.BinLots'. -/
def binLotsCard : Claim7 := { stood := { row := binLotsRow, standIns := [], harness := (true, "fce0d88e9b1f3f40cded6335f79931041f2ac798ee54c13be1158ec74f7215b0"), looks := true }, kinds := [], alts := [], laidByText := true, laidKinds := [.data, .data, .data, .data, .sentinel, .sentinel, .pinned], laidTests := true, laidLooks := .later }
def BinLotsCardSaid : Prop := Claim7.holds Tryz.pinned (.plain (OpenSpec.ofChange binLotsSpec)) binLotsCard

/-- THE SECOND FORM's CARD OF 'bushellaw04.BinEmpties'. -/
def binEmptiesUptoCard : Claim7 := { stood := { row := binEmptiesUptoRow, standIns := [], harness := (true, "fce0d88e9b1f3f40cded6335f79931041f2ac798ee54c13be1158ec74f7215b0"), looks := true }, kinds := [], alts := [], laidByText := true, laidKinds := [.data, .data, .data, .data, .sentinel, .sentinel, .pinned], laidTests := true, laidLooks := .later }
def BinEmptiesUptoCardSaid : Prop := Claim7.holds Tryz.pinned (.plain (OpenSpec.upto binEmptiesSpec)) binEmptiesUptoCard

/-- THE SECOND FORM's CARD OF 'bushellaw04.BinKeeps'. -/
def binKeepsUptoCard : Claim7 := { stood := { row := binKeepsUptoRow, standIns := [], harness := (true, "fce0d88e9b1f3f40cded6335f79931041f2ac798ee54c13be1158ec74f7215b0"), looks := true }, kinds := [], alts := [], laidByText := true, laidKinds := [.data, .data, .data, .data, .sentinel, .sentinel, .pinned], laidTests := true, laidLooks := .later }
def BinKeepsUptoCardSaid : Prop := Claim7.holds Tryz.pinned (.plain (OpenSpec.upto binKeepsSpec)) binKeepsUptoCard

/-- THE SECOND FORM's CARD OF 'bushellaw04.BinSteps'. -/
def binStepsUptoCard : Claim7 := { stood := { row := binStepsUptoRow, standIns := [], harness := (true, "fce0d88e9b1f3f40cded6335f79931041f2ac798ee54c13be1158ec74f7215b0"), looks := true }, kinds := [], alts := [], laidByText := true, laidKinds := [.data, .data, .data, .data, .sentinel, .sentinel, .pinned], laidTests := true, laidLooks := .later }
def BinStepsUptoCardSaid : Prop := Claim7.holds Tryz.pinned (.plain (OpenSpec.upto binStepsSpec)) binStepsUptoCard

/-- THE SECOND FORM's CARD OF 'bushellaw04.BinParts'. -/
def binPartsUptoCard : Claim7 := { stood := { row := binPartsUptoRow, standIns := [], harness := (true, "fce0d88e9b1f3f40cded6335f79931041f2ac798ee54c13be1158ec74f7215b0"), looks := true }, kinds := [], alts := [], laidByText := true, laidKinds := [.data, .data, .data, .data, .sentinel, .sentinel, .pinned], laidTests := true, laidLooks := .later }
def BinPartsUptoCardSaid : Prop := Claim7.holds Tryz.pinned (.plain (OpenSpec.upto binPartsSpec)) binPartsUptoCard

/-- THE SECOND FORM's CARD OF 'bushellaw04.BinQueues'. -/
def binQueuesUptoCard : Claim7 := { stood := { row := binQueuesUptoRow, standIns := [], harness := (true, "fce0d88e9b1f3f40cded6335f79931041f2ac798ee54c13be1158ec74f7215b0"), looks := true }, kinds := [], alts := [], laidByText := true, laidKinds := [.data, .data, .data, .data, .sentinel, .sentinel, .pinned], laidTests := true, laidLooks := .later }
def BinQueuesUptoCardSaid : Prop := Claim7.holds Tryz.pinned (.plain (OpenSpec.upto binQueuesSpec)) binQueuesUptoCard

/-- THE SECOND FORM's CARD OF 'bushellaw04.BinLots'. -/
def binLotsUptoCard : Claim7 := { stood := { row := binLotsUptoRow, standIns := [], harness := (true, "fce0d88e9b1f3f40cded6335f79931041f2ac798ee54c13be1158ec74f7215b0"), looks := true }, kinds := [], alts := [], laidByText := true, laidKinds := [.data, .data, .data, .data, .sentinel, .sentinel, .pinned], laidTests := true, laidLooks := .later }
def BinLotsUptoCardSaid : Prop := Claim7.holds Tryz.pinned (.plain (OpenSpec.upto binLotsSpec)) binLotsUptoCard
end Rows
end Go.Proofs.YtegpdgcahcikoaaGreatDoor
