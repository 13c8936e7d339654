/-
  DERIVED. GIVEN WITH THE SEED: THE CARDS: each row of YteeceibhhdapaaaGreatDoorRows.lean that lists a variable, with what it lists TIED to the program's text (the seventh form; the later family's looks); each row that meets fmt, with fmt's text TOLD by the authors' own Lean function (tested against real Go, not proved from fmt's source: count such statements apart). THE CARD IS WHAT COUNTS. Prove the row's statement (the work); the ties are given (YteeceibhhdapaaaGreatDoorTie.lean); close each card by the builder's one call (the guide's Derived/Test/ToyasCard.lean, 'card_holds'). Laid BY PROGRAM, IN A SANDBOX (cutbox-door.mjs). By AI agents, Wed Nov 11 2026. No macro, syntax, notation, axiom, sorry.
-/
import Derived.Test.YteeceibhhdapaaaGreatDoorRows
import GoSem.ClaimSeven
namespace Go.Proofs.YteeceibhhdapaaaGreatDoor
namespace Rows

/-- THE TIED CARD OF 'bushellaw04.BinPools'. -/
def binPoolsCard : Claim7 := { stood := { row := binPoolsRow, standIns := [], harness := (true, "0f4b33d6a16b850743a780d922e79e4ac9c345b7223bf438242b66b51ebae1a9"), looks := true }, kinds := [], alts := [], laidByText := true, laidKinds := [.data, .data, .data, .data, .sentinel, .sentinel, .pinned], laidTests := true, laidLooks := .later }
def BinPoolsCardSaid : Prop := Claim7.holds Tryz.pinned (.plain (OpenSpec.ofChange binPoolsSpec)) binPoolsCard

/-- THE TIED CARD OF 'bushellaw04.BinLimits'. -/
def binLimitsCard : Claim7 := { stood := { row := binLimitsRow, standIns := [], harness := (true, "0f4b33d6a16b850743a780d922e79e4ac9c345b7223bf438242b66b51ebae1a9"), looks := true }, kinds := [], alts := [], laidByText := true, laidKinds := [.data, .data, .data, .data, .sentinel, .sentinel, .pinned], laidTests := true, laidLooks := .later }
def BinLimitsCardSaid : Prop := Claim7.holds Tryz.pinned (.plain (OpenSpec.ofChange binLimitsSpec)) binLimitsCard

/-- THE TIED CARD OF 'bushellaw04.BinChecks'. -/
def binChecksCard : Claim7 := { stood := { row := binChecksRow, standIns := [], harness := (true, "0f4b33d6a16b850743a780d922e79e4ac9c345b7223bf438242b66b51ebae1a9"), looks := true }, kinds := [], alts := [], laidByText := true, laidKinds := [.data, .data, .data, .data, .sentinel, .sentinel, .pinned], laidTests := true, laidLooks := .later }
def BinChecksCardSaid : Prop := Claim7.holds Tryz.pinned (.plain (OpenSpec.ofChange binChecksSpec)) binChecksCard

/-- THE TIED CARD OF 'bushellaw04.BinParcels'. -/
def binParcelsCard : Claim7 := { stood := { row := binParcelsRow, standIns := [], harness := (true, "0f4b33d6a16b850743a780d922e79e4ac9c345b7223bf438242b66b51ebae1a9"), looks := true }, kinds := [], alts := [], laidByText := true, laidKinds := [.data, .data, .data, .data, .sentinel, .sentinel, .pinned], laidTests := true, laidLooks := .later }
def BinParcelsCardSaid : Prop := Claim7.holds Tryz.pinned (.plain (OpenSpec.ofChange binParcelsSpec)) binParcelsCard

/-- THE TIED CARD OF 'bushellaw04.BinFills'. -/
def binFillsCard : Claim7 := { stood := { row := binFillsRow, standIns := [], harness := (true, "0f4b33d6a16b850743a780d922e79e4ac9c345b7223bf438242b66b51ebae1a9"), looks := true }, kinds := [], alts := [], laidByText := true, laidKinds := [.data, .data, .data, .data, .sentinel, .sentinel, .pinned], laidTests := true, laidLooks := .later }
def BinFillsCardSaid : Prop := Claim7.holds Tryz.pinned (.plain (OpenSpec.ofChange binFillsSpec)) binFillsCard

/-- THE TIED CARD OF 'bushellaw04.BinSplits'. -/
def binSplitsCard : Claim7 := { stood := { row := binSplitsRow, standIns := [], harness := (true, "0f4b33d6a16b850743a780d922e79e4ac9c345b7223bf438242b66b51ebae1a9"), looks := true }, kinds := [], alts := [], laidByText := true, laidKinds := [.data, .data, .data, .data, .sentinel, .sentinel, .pinned], laidTests := true, laidLooks := .later }
def BinSplitsCardSaid : Prop := Claim7.holds Tryz.pinned (.plain (OpenSpec.ofChange binSplitsSpec)) binSplitsCard

/-- THE SECOND FORM's CARD OF 'bushellaw04.BinPools'. -/
def binPoolsUptoCard : Claim7 := { stood := { row := binPoolsUptoRow, standIns := [], harness := (true, "0f4b33d6a16b850743a780d922e79e4ac9c345b7223bf438242b66b51ebae1a9"), looks := true }, kinds := [], alts := [], laidByText := true, laidKinds := [.data, .data, .data, .data, .sentinel, .sentinel, .pinned], laidTests := true, laidLooks := .later }
def BinPoolsUptoCardSaid : Prop := Claim7.holds Tryz.pinned (.plain (OpenSpec.upto binPoolsSpec)) binPoolsUptoCard

/-- THE SECOND FORM's CARD OF 'bushellaw04.BinLimits'. -/
def binLimitsUptoCard : Claim7 := { stood := { row := binLimitsUptoRow, standIns := [], harness := (true, "0f4b33d6a16b850743a780d922e79e4ac9c345b7223bf438242b66b51ebae1a9"), looks := true }, kinds := [], alts := [], laidByText := true, laidKinds := [.data, .data, .data, .data, .sentinel, .sentinel, .pinned], laidTests := true, laidLooks := .later }
def BinLimitsUptoCardSaid : Prop := Claim7.holds Tryz.pinned (.plain (OpenSpec.upto binLimitsSpec)) binLimitsUptoCard

/-- THE SECOND FORM's CARD OF 'bushellaw04.BinChecks'. -/
def binChecksUptoCard : Claim7 := { stood := { row := binChecksUptoRow, standIns := [], harness := (true, "0f4b33d6a16b850743a780d922e79e4ac9c345b7223bf438242b66b51ebae1a9"), looks := true }, kinds := [], alts := [], laidByText := true, laidKinds := [.data, .data, .data, .data, .sentinel, .sentinel, .pinned], laidTests := true, laidLooks := .later }
def BinChecksUptoCardSaid : Prop := Claim7.holds Tryz.pinned (.plain (OpenSpec.upto binChecksSpec)) binChecksUptoCard

/-- THE SECOND FORM's CARD OF 'bushellaw04.BinParcels'. -/
def binParcelsUptoCard : Claim7 := { stood := { row := binParcelsUptoRow, standIns := [], harness := (true, "0f4b33d6a16b850743a780d922e79e4ac9c345b7223bf438242b66b51ebae1a9"), looks := true }, kinds := [], alts := [], laidByText := true, laidKinds := [.data, .data, .data, .data, .sentinel, .sentinel, .pinned], laidTests := true, laidLooks := .later }
def BinParcelsUptoCardSaid : Prop := Claim7.holds Tryz.pinned (.plain (OpenSpec.upto binParcelsSpec)) binParcelsUptoCard

/-- THE SECOND FORM's CARD OF 'bushellaw04.BinFills'. -/
def binFillsUptoCard : Claim7 := { stood := { row := binFillsUptoRow, standIns := [], harness := (true, "0f4b33d6a16b850743a780d922e79e4ac9c345b7223bf438242b66b51ebae1a9"), looks := true }, kinds := [], alts := [], laidByText := true, laidKinds := [.data, .data, .data, .data, .sentinel, .sentinel, .pinned], laidTests := true, laidLooks := .later }
def BinFillsUptoCardSaid : Prop := Claim7.holds Tryz.pinned (.plain (OpenSpec.upto binFillsSpec)) binFillsUptoCard

/-- THE SECOND FORM's CARD OF 'bushellaw04.BinSplits'. -/
def binSplitsUptoCard : Claim7 := { stood := { row := binSplitsUptoRow, standIns := [], harness := (true, "0f4b33d6a16b850743a780d922e79e4ac9c345b7223bf438242b66b51ebae1a9"), looks := true }, kinds := [], alts := [], laidByText := true, laidKinds := [.data, .data, .data, .data, .sentinel, .sentinel, .pinned], laidTests := true, laidLooks := .later }
def BinSplitsUptoCardSaid : Prop := Claim7.holds Tryz.pinned (.plain (OpenSpec.upto binSplitsSpec)) binSplitsUptoCard
end Rows
end Go.Proofs.YteeceibhhdapaaaGreatDoor
