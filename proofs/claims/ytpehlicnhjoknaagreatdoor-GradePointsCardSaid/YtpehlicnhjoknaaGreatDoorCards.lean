/-
  DERIVED. GIVEN WITH THE SEED: THE CARDS: each row of YtpehlicnhjoknaaGreatDoorRows.lean that lists a variable, with what it lists TIED to the program's text (the seventh form; the later family's looks); each row that meets fmt, with fmt's text TOLD by the authors' own Lean function (tested against real Go, not proved from fmt's source: count such statements apart). THE CARD IS WHAT COUNTS. Prove the row's statement (the work); the ties are given (YtpehlicnhjoknaaGreatDoorTie.lean); close each card by the builder's one call (the guide's Derived/Test/ToyasCard.lean, 'card_holds'). Laid BY PROGRAM, IN A SANDBOX (cutbox-door.mjs). By AI agents, Wed Nov 11 2026. No macro, syntax, notation, axiom, sorry.
-/
import Derived.Test.YtpehlicnhjoknaaGreatDoorRows
import GoSem.ClaimSeven
namespace Go.Proofs.YtpehlicnhjoknaaGreatDoor
namespace Rows

/-- THE TIED CARD OF 'bushellaw02.GradePatterns'. -/
def gradePatternsCard : Claim7 := { stood := { row := gradePatternsRow, standIns := [], harness := (true, "ee80de4e3a4d5936c0054a4b252ead706de1574ddd736b3e5086f59afa70011b"), looks := true }, kinds := [], alts := [], laidByText := true, laidKinds := [.data, .data, .data, .data, .sentinel, .sentinel, .pinned], laidTests := true, laidLooks := .later }
def GradePatternsCardSaid : Prop := Claim7.holds Tryz.pinned (.plain (OpenSpec.ofChange gradePatternsSpec)) gradePatternsCard

/-- THE TIED CARD OF 'bushellaw02.GradeComposites'. -/
def gradeCompositesCard : Claim7 := { stood := { row := gradeCompositesRow, standIns := [], harness := (true, "ee80de4e3a4d5936c0054a4b252ead706de1574ddd736b3e5086f59afa70011b"), looks := true }, kinds := [], alts := [], laidByText := true, laidKinds := [.data, .data, .data, .data, .sentinel, .sentinel, .pinned], laidTests := true, laidLooks := .later }
def GradeCompositesCardSaid : Prop := Claim7.holds Tryz.pinned (.plain (OpenSpec.ofChange gradeCompositesSpec)) gradeCompositesCard

/-- THE TIED CARD OF 'bushellaw02.GradeReadings'. -/
def gradeReadingsCard : Claim7 := { stood := { row := gradeReadingsRow, standIns := [], harness := (true, "ee80de4e3a4d5936c0054a4b252ead706de1574ddd736b3e5086f59afa70011b"), looks := true }, kinds := [], alts := [], laidByText := true, laidKinds := [.data, .data, .data, .data, .sentinel, .sentinel, .pinned], laidTests := true, laidLooks := .later }
def GradeReadingsCardSaid : Prop := Claim7.holds Tryz.pinned (.plain (OpenSpec.ofChange gradeReadingsSpec)) gradeReadingsCard

/-- THE TIED CARD OF 'bushellaw02.GradeSchemes'. -/
def gradeSchemesCard : Claim7 := { stood := { row := gradeSchemesRow, standIns := [], harness := (true, "ee80de4e3a4d5936c0054a4b252ead706de1574ddd736b3e5086f59afa70011b"), looks := true }, kinds := [], alts := [], laidByText := true, laidKinds := [.data, .data, .data, .data, .sentinel, .sentinel, .pinned], laidTests := true, laidLooks := .later }
def GradeSchemesCardSaid : Prop := Claim7.holds Tryz.pinned (.plain (OpenSpec.ofChange gradeSchemesSpec)) gradeSchemesCard

/-- THE TIED CARD OF 'bushellaw02.GradePoints'. -/
def gradePointsCard : Claim7 := { stood := { row := gradePointsRow, standIns := [], harness := (true, "ee80de4e3a4d5936c0054a4b252ead706de1574ddd736b3e5086f59afa70011b"), looks := true }, kinds := [], alts := [], laidByText := true, laidKinds := [.data, .data, .data, .data, .sentinel, .sentinel, .pinned], laidTests := true, laidLooks := .later }
def GradePointsCardSaid : Prop := Claim7.holds Tryz.pinned (.plain (OpenSpec.ofChange gradePointsSpec)) gradePointsCard

/-- THE TIED CARD OF 'bushellaw02.GradeMixed'. -/
def gradeMixedCard : Claim7 := { stood := { row := gradeMixedRow, standIns := [], harness := (true, "ee80de4e3a4d5936c0054a4b252ead706de1574ddd736b3e5086f59afa70011b"), looks := true }, kinds := [], alts := [], laidByText := true, laidKinds := [.data, .data, .data, .data, .sentinel, .sentinel, .pinned], laidTests := true, laidLooks := .later }
def GradeMixedCardSaid : Prop := Claim7.holds Tryz.pinned (.plain (OpenSpec.ofChange gradeMixedSpec)) gradeMixedCard

/-- THE SECOND FORM's CARD OF 'bushellaw02.GradePatterns'. -/
def gradePatternsUptoCard : Claim7 := { stood := { row := gradePatternsUptoRow, standIns := [], harness := (true, "ee80de4e3a4d5936c0054a4b252ead706de1574ddd736b3e5086f59afa70011b"), looks := true }, kinds := [], alts := [], laidByText := true, laidKinds := [.data, .data, .data, .data, .sentinel, .sentinel, .pinned], laidTests := true, laidLooks := .later }
def GradePatternsUptoCardSaid : Prop := Claim7.holds Tryz.pinned (.plain (OpenSpec.upto gradePatternsSpec)) gradePatternsUptoCard

/-- THE SECOND FORM's CARD OF 'bushellaw02.GradeComposites'. -/
def gradeCompositesUptoCard : Claim7 := { stood := { row := gradeCompositesUptoRow, standIns := [], harness := (true, "ee80de4e3a4d5936c0054a4b252ead706de1574ddd736b3e5086f59afa70011b"), looks := true }, kinds := [], alts := [], laidByText := true, laidKinds := [.data, .data, .data, .data, .sentinel, .sentinel, .pinned], laidTests := true, laidLooks := .later }
def GradeCompositesUptoCardSaid : Prop := Claim7.holds Tryz.pinned (.plain (OpenSpec.upto gradeCompositesSpec)) gradeCompositesUptoCard

/-- THE SECOND FORM's CARD OF 'bushellaw02.GradeReadings'. -/
def gradeReadingsUptoCard : Claim7 := { stood := { row := gradeReadingsUptoRow, standIns := [], harness := (true, "ee80de4e3a4d5936c0054a4b252ead706de1574ddd736b3e5086f59afa70011b"), looks := true }, kinds := [], alts := [], laidByText := true, laidKinds := [.data, .data, .data, .data, .sentinel, .sentinel, .pinned], laidTests := true, laidLooks := .later }
def GradeReadingsUptoCardSaid : Prop := Claim7.holds Tryz.pinned (.plain (OpenSpec.upto gradeReadingsSpec)) gradeReadingsUptoCard

/-- THE SECOND FORM's CARD OF 'bushellaw02.GradeSchemes'. -/
def gradeSchemesUptoCard : Claim7 := { stood := { row := gradeSchemesUptoRow, standIns := [], harness := (true, "ee80de4e3a4d5936c0054a4b252ead706de1574ddd736b3e5086f59afa70011b"), looks := true }, kinds := [], alts := [], laidByText := true, laidKinds := [.data, .data, .data, .data, .sentinel, .sentinel, .pinned], laidTests := true, laidLooks := .later }
def GradeSchemesUptoCardSaid : Prop := Claim7.holds Tryz.pinned (.plain (OpenSpec.upto gradeSchemesSpec)) gradeSchemesUptoCard

/-- THE SECOND FORM's CARD OF 'bushellaw02.GradePoints'. -/
def gradePointsUptoCard : Claim7 := { stood := { row := gradePointsUptoRow, standIns := [], harness := (true, "ee80de4e3a4d5936c0054a4b252ead706de1574ddd736b3e5086f59afa70011b"), looks := true }, kinds := [], alts := [], laidByText := true, laidKinds := [.data, .data, .data, .data, .sentinel, .sentinel, .pinned], laidTests := true, laidLooks := .later }
def GradePointsUptoCardSaid : Prop := Claim7.holds Tryz.pinned (.plain (OpenSpec.upto gradePointsSpec)) gradePointsUptoCard

/-- THE SECOND FORM's CARD OF 'bushellaw02.GradeMixed'. -/
def gradeMixedUptoCard : Claim7 := { stood := { row := gradeMixedUptoRow, standIns := [], harness := (true, "ee80de4e3a4d5936c0054a4b252ead706de1574ddd736b3e5086f59afa70011b"), looks := true }, kinds := [], alts := [], laidByText := true, laidKinds := [.data, .data, .data, .data, .sentinel, .sentinel, .pinned], laidTests := true, laidLooks := .later }
def GradeMixedUptoCardSaid : Prop := Claim7.holds Tryz.pinned (.plain (OpenSpec.upto gradeMixedSpec)) gradeMixedUptoCard
end Rows
end Go.Proofs.YtpehlicnhjoknaaGreatDoor
