/-
  DERIVED. GIVEN WITH THE SEED: THE CARDS: each row of YtpehlicnhjoknacGreatDoorRows.lean that lists a variable, with what it lists TIED to the program's text (the seventh form; the later family's looks); each row that meets fmt, with fmt's text TOLD by the authors' own Lean function (tested against real Go, not proved from fmt's source: count such statements apart). THE CARD IS WHAT COUNTS. Prove the row's statement (the work); the ties are given (YtpehlicnhjoknacGreatDoorTie.lean); close each card by the builder's one call (the guide's Derived/Test/ToyasCard.lean, 'card_holds'). Laid BY PROGRAM, IN A SANDBOX (cutbox-door.mjs). By AI agents, Wed Nov 11 2026. No macro, syntax, notation, axiom, sorry.
-/
import Derived.Test.YtpehlicnhjoknacGreatDoorRows
import GoSem.ClaimSeven
namespace Go.Proofs.YtpehlicnhjoknacGreatDoor
namespace Rows

/-- THE TIED CARD OF 'bushellaw02.GradeCorners'. -/
def gradeCornersCard : Claim7 := { stood := { row := gradeCornersRow, standIns := [], harness := (true, "505986cd1c4e26e70400ef1b259fb2d1e786ac6db90d4cbc0260bf70ef9d4331"), looks := true }, kinds := [], alts := [], laidByText := true, laidKinds := [.data, .data, .data, .data, .sentinel, .sentinel, .pinned], laidTests := true, laidLooks := .later }
def GradeCornersCardSaid : Prop := Claim7.holds Tryz.pinned (.plain (OpenSpec.ofChange gradeCornersSpec)) gradeCornersCard

/-- THE TIED CARD OF 'bushellaw02.GradeIntervals'. -/
def gradeIntervalsCard : Claim7 := { stood := { row := gradeIntervalsRow, standIns := [], harness := (true, "505986cd1c4e26e70400ef1b259fb2d1e786ac6db90d4cbc0260bf70ef9d4331"), looks := true }, kinds := [], alts := [], laidByText := true, laidKinds := [.data, .data, .data, .data, .sentinel, .sentinel, .pinned], laidTests := true, laidLooks := .later }
def GradeIntervalsCardSaid : Prop := Claim7.holds Tryz.pinned (.plain (OpenSpec.ofChange gradeIntervalsSpec)) gradeIntervalsCard

/-- THE SECOND FORM's CARD OF 'bushellaw02.GradeCorners'. -/
def gradeCornersUptoCard : Claim7 := { stood := { row := gradeCornersUptoRow, standIns := [], harness := (true, "505986cd1c4e26e70400ef1b259fb2d1e786ac6db90d4cbc0260bf70ef9d4331"), looks := true }, kinds := [], alts := [], laidByText := true, laidKinds := [.data, .data, .data, .data, .sentinel, .sentinel, .pinned], laidTests := true, laidLooks := .later }
def GradeCornersUptoCardSaid : Prop := Claim7.holds Tryz.pinned (.plain (OpenSpec.upto gradeCornersSpec)) gradeCornersUptoCard

/-- THE SECOND FORM's CARD OF 'bushellaw02.GradeIntervals'. -/
def gradeIntervalsUptoCard : Claim7 := { stood := { row := gradeIntervalsUptoRow, standIns := [], harness := (true, "505986cd1c4e26e70400ef1b259fb2d1e786ac6db90d4cbc0260bf70ef9d4331"), looks := true }, kinds := [], alts := [], laidByText := true, laidKinds := [.data, .data, .data, .data, .sentinel, .sentinel, .pinned], laidTests := true, laidLooks := .later }
def GradeIntervalsUptoCardSaid : Prop := Claim7.holds Tryz.pinned (.plain (OpenSpec.upto gradeIntervalsSpec)) gradeIntervalsUptoCard
end Rows
end Go.Proofs.YtpehlicnhjoknacGreatDoor
