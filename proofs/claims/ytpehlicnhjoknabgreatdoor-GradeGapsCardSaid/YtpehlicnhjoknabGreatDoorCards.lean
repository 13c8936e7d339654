/-
  DERIVED. GIVEN WITH THE SEED: THE CARDS: each row of YtpehlicnhjoknabGreatDoorRows.lean that lists a variable, with what it lists TIED to the program's text (the seventh form; the later family's looks); each row that meets fmt, with fmt's text TOLD by the authors' own Lean function (tested against real Go, not proved from fmt's source: count such statements apart). THE CARD IS WHAT COUNTS. Prove the row's statement (the work); the ties are given (YtpehlicnhjoknabGreatDoorTie.lean); close each card by the builder's one call (the guide's Derived/Test/ToyasCard.lean, 'card_holds'). Laid BY PROGRAM, IN A SANDBOX (cutbox-door.mjs). By AI agents, Wed Nov 11 2026. No macro, syntax, notation, axiom, sorry.
-/
import Derived.Test.YtpehlicnhjoknabGreatDoorRows
import GoSem.ClaimSeven
namespace Go.Proofs.YtpehlicnhjoknabGreatDoor
namespace Rows

/-- THE TIED CARD OF 'bushellaw02.GradeGaps'. -/
def gradeGapsCard : Claim7 := { stood := { row := gradeGapsRow, standIns := [], harness := (true, "c2d4a1ab1c1dbbe9ec67c7a0a20c5cc0ec5f2612984e03008d35535ae75039b8"), looks := true }, kinds := [], alts := [], laidByText := true, laidKinds := [.data, .data, .data, .data, .sentinel, .sentinel, .pinned], laidTests := true, laidLooks := .later }
def GradeGapsCardSaid : Prop := Claim7.holds Tryz.pinned (.plain (OpenSpec.ofChange gradeGapsSpec)) gradeGapsCard

/-- THE TIED CARD OF 'bushellaw02.GradeDiscounts'. -/
def gradeDiscountsCard : Claim7 := { stood := { row := gradeDiscountsRow, standIns := [], harness := (true, "c2d4a1ab1c1dbbe9ec67c7a0a20c5cc0ec5f2612984e03008d35535ae75039b8"), looks := true }, kinds := [], alts := [], laidByText := true, laidKinds := [.data, .data, .data, .data, .sentinel, .sentinel, .pinned], laidTests := true, laidLooks := .later }
def GradeDiscountsCardSaid : Prop := Claim7.holds Tryz.pinned (.plain (OpenSpec.ofChange gradeDiscountsSpec)) gradeDiscountsCard

/-- THE TIED CARD OF 'bushellaw02.GradeMonotone'. -/
def gradeMonotoneCard : Claim7 := { stood := { row := gradeMonotoneRow, standIns := [], harness := (true, "c2d4a1ab1c1dbbe9ec67c7a0a20c5cc0ec5f2612984e03008d35535ae75039b8"), looks := true }, kinds := [], alts := [], laidByText := true, laidKinds := [.data, .data, .data, .data, .sentinel, .sentinel, .pinned], laidTests := true, laidLooks := .later }
def GradeMonotoneCardSaid : Prop := Claim7.holds Tryz.pinned (.plain (OpenSpec.ofChange gradeMonotoneSpec)) gradeMonotoneCard

/-- THE TIED CARD OF 'bushellaw02.GradeDeducts'. -/
def gradeDeductsCard : Claim7 := { stood := { row := gradeDeductsRow, standIns := [], harness := (true, "c2d4a1ab1c1dbbe9ec67c7a0a20c5cc0ec5f2612984e03008d35535ae75039b8"), looks := true }, kinds := [], alts := [], laidByText := true, laidKinds := [.data, .data, .data, .data, .sentinel, .sentinel, .pinned], laidTests := true, laidLooks := .later }
def GradeDeductsCardSaid : Prop := Claim7.holds Tryz.pinned (.plain (OpenSpec.ofChange gradeDeductsSpec)) gradeDeductsCard

/-- THE TIED CARD OF 'bushellaw02.GradeValues'. -/
def gradeValuesCard : Claim7 := { stood := { row := gradeValuesRow, standIns := [], harness := (true, "c2d4a1ab1c1dbbe9ec67c7a0a20c5cc0ec5f2612984e03008d35535ae75039b8"), looks := true }, kinds := [], alts := [], laidByText := true, laidKinds := [.data, .data, .data, .data, .sentinel, .sentinel, .pinned], laidTests := true, laidLooks := .later }
def GradeValuesCardSaid : Prop := Claim7.holds Tryz.pinned (.plain (OpenSpec.ofChange gradeValuesSpec)) gradeValuesCard

/-- THE TIED CARD OF 'bushellaw02.GradeWorst'. -/
def gradeWorstCard : Claim7 := { stood := { row := gradeWorstRow, standIns := [], harness := (true, "c2d4a1ab1c1dbbe9ec67c7a0a20c5cc0ec5f2612984e03008d35535ae75039b8"), looks := true }, kinds := [], alts := [], laidByText := true, laidKinds := [.data, .data, .data, .data, .sentinel, .sentinel, .pinned], laidTests := true, laidLooks := .later }
def GradeWorstCardSaid : Prop := Claim7.holds Tryz.pinned (.plain (OpenSpec.ofChange gradeWorstSpec)) gradeWorstCard

/-- THE SECOND FORM's CARD OF 'bushellaw02.GradeGaps'. -/
def gradeGapsUptoCard : Claim7 := { stood := { row := gradeGapsUptoRow, standIns := [], harness := (true, "c2d4a1ab1c1dbbe9ec67c7a0a20c5cc0ec5f2612984e03008d35535ae75039b8"), looks := true }, kinds := [], alts := [], laidByText := true, laidKinds := [.data, .data, .data, .data, .sentinel, .sentinel, .pinned], laidTests := true, laidLooks := .later }
def GradeGapsUptoCardSaid : Prop := Claim7.holds Tryz.pinned (.plain (OpenSpec.upto gradeGapsSpec)) gradeGapsUptoCard

/-- THE SECOND FORM's CARD OF 'bushellaw02.GradeDiscounts'. -/
def gradeDiscountsUptoCard : Claim7 := { stood := { row := gradeDiscountsUptoRow, standIns := [], harness := (true, "c2d4a1ab1c1dbbe9ec67c7a0a20c5cc0ec5f2612984e03008d35535ae75039b8"), looks := true }, kinds := [], alts := [], laidByText := true, laidKinds := [.data, .data, .data, .data, .sentinel, .sentinel, .pinned], laidTests := true, laidLooks := .later }
def GradeDiscountsUptoCardSaid : Prop := Claim7.holds Tryz.pinned (.plain (OpenSpec.upto gradeDiscountsSpec)) gradeDiscountsUptoCard

/-- THE SECOND FORM's CARD OF 'bushellaw02.GradeMonotone'. -/
def gradeMonotoneUptoCard : Claim7 := { stood := { row := gradeMonotoneUptoRow, standIns := [], harness := (true, "c2d4a1ab1c1dbbe9ec67c7a0a20c5cc0ec5f2612984e03008d35535ae75039b8"), looks := true }, kinds := [], alts := [], laidByText := true, laidKinds := [.data, .data, .data, .data, .sentinel, .sentinel, .pinned], laidTests := true, laidLooks := .later }
def GradeMonotoneUptoCardSaid : Prop := Claim7.holds Tryz.pinned (.plain (OpenSpec.upto gradeMonotoneSpec)) gradeMonotoneUptoCard

/-- THE SECOND FORM's CARD OF 'bushellaw02.GradeDeducts'. -/
def gradeDeductsUptoCard : Claim7 := { stood := { row := gradeDeductsUptoRow, standIns := [], harness := (true, "c2d4a1ab1c1dbbe9ec67c7a0a20c5cc0ec5f2612984e03008d35535ae75039b8"), looks := true }, kinds := [], alts := [], laidByText := true, laidKinds := [.data, .data, .data, .data, .sentinel, .sentinel, .pinned], laidTests := true, laidLooks := .later }
def GradeDeductsUptoCardSaid : Prop := Claim7.holds Tryz.pinned (.plain (OpenSpec.upto gradeDeductsSpec)) gradeDeductsUptoCard

/-- THE SECOND FORM's CARD OF 'bushellaw02.GradeValues'. -/
def gradeValuesUptoCard : Claim7 := { stood := { row := gradeValuesUptoRow, standIns := [], harness := (true, "c2d4a1ab1c1dbbe9ec67c7a0a20c5cc0ec5f2612984e03008d35535ae75039b8"), looks := true }, kinds := [], alts := [], laidByText := true, laidKinds := [.data, .data, .data, .data, .sentinel, .sentinel, .pinned], laidTests := true, laidLooks := .later }
def GradeValuesUptoCardSaid : Prop := Claim7.holds Tryz.pinned (.plain (OpenSpec.upto gradeValuesSpec)) gradeValuesUptoCard

/-- THE SECOND FORM's CARD OF 'bushellaw02.GradeWorst'. -/
def gradeWorstUptoCard : Claim7 := { stood := { row := gradeWorstUptoRow, standIns := [], harness := (true, "c2d4a1ab1c1dbbe9ec67c7a0a20c5cc0ec5f2612984e03008d35535ae75039b8"), looks := true }, kinds := [], alts := [], laidByText := true, laidKinds := [.data, .data, .data, .data, .sentinel, .sentinel, .pinned], laidTests := true, laidLooks := .later }
def GradeWorstUptoCardSaid : Prop := Claim7.holds Tryz.pinned (.plain (OpenSpec.upto gradeWorstSpec)) gradeWorstUptoCard
end Rows
end Go.Proofs.YtpehlicnhjoknabGreatDoor
