/- GradeSchemes holds of the given program: for every scheme the call returns true, and its argument reads as before. Conditions: none beyond the row's own (the listed variables read as the card ties them). -/
import Derived.Test.YtpehlicnhjoknaaGreatDoorP16
import Derived.Test.YtpehlicnhjoknaaGreatDoorCards
import Derived.Test.YtpehlicnhjoknaaGreatDoorTie
import Derived.SevenTiedAt
import Derived.KernelRfl
namespace Go.Proofs.YtpehlicnhjoknaaGreatDoor
open Go
theorem gradeSchemes_holds:Rows.GradeSchemesCardSaid :=
 Claim7.holds_tied_plain_at .later [] [.data,.data,.data,.data,.sentinel,.sentinel,.pinned] true (true,"ee80de4e3a4d5936c0054a4b252ead706de1574ddd736b3e5086f59afa70011b") true
  row_holds (fun _ h=>by cases h) (by kernel_rfl) (fun _ h=>by cases h) gradeSchemes_row_tie rfl ⟨rfl,rfl⟩ (by kernel_rfl) rfl
  (fun f fn hf hfn=>by
   obtain rfl:f=6:=Option.some.inj ((show Tryz.prog.funcNamed "bushel/bushellaw02.GradeSchemes" = some 6 by kernel_rfl).symm.trans hf) |>.symm
   obtain rfl:fn=Tryz.f6:=(Option.some.inj (Tryz.func6.symm.trans hfn)).symm;exact ⟨by kernel_rfl,fun j t ht=>by
    rw [show Tryz.f6.params = #[69] by kernel_rfl] at ht;have hm:t∈[69]:=by simpa using Array.mem_of_getElem? ht
    have hall:([69].all fun u=>!Tryz.prog.wantsStandIn u)=true:=by kernel_rfl
    exact (show Tryz.prog.wantsStandIn t=false by simpa using List.all_eq_true.1 hall t hm)⟩)
  (by kernel_rfl)
#print axioms gradeSchemes_holds
end Go.Proofs.YtpehlicnhjoknaaGreatDoor
