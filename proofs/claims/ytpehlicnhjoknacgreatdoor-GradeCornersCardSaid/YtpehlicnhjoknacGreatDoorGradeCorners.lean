/- GradeCorners holds of the given program: for every scheme and all spans the call returns true, and its arguments read as before. Conditions: none beyond the row's own (the listed variables read as the card ties them). -/
import Derived.Test.YtpehlicnhjoknacGreatDoorP15
import Derived.Test.YtpehlicnhjoknacGreatDoorCards
import Derived.Test.YtpehlicnhjoknacGreatDoorTie
import Derived.SevenTiedAt
import Derived.KernelRfl
namespace Go.Proofs.YtpehlicnhjoknacGreatDoor
open Go
theorem cfw:Rows.gradeCornersRow.wfByText (OpenSpec.ofChange Rows.gradeCornersSpec)=true:=by kernel_rfl
theorem cfm:Tryz.pinned.checked.prog.mainIs=some (true,"505986cd1c4e26e70400ef1b259fb2d1e786ac6db90d4cbc0260bf70ef9d4331".toList):=by kernel_rfl
theorem cfn:Tryz.prog.funcNamed "bushel/bushellaw02.GradeCorners" = some 3:=by kernel_rfl
theorem cfp:Tryz.f3.params = #[25,26]:=by kernel_rfl
theorem cfl:true=Tryz.prog.looks []:=by kernel_rfl
theorem cfs:([25,26].all fun u=>!Tryz.prog.wantsStandIn u)=true:=by kernel_rfl
theorem cfg:false=Rows.gradeCornersRow.goesBy Tryz.pinned.checked.prog:=by kernel_rfl
theorem cfh (f:FuncId) (fn:Func) (hf:Tryz.prog.funcNamed "bushel/bushellaw02.GradeCorners" = some f) (hfn:Tryz.prog.funcs[f]? = some fn):true=Tryz.prog.looks []/\∀ (j:Nat) t,fn.params[j]? = some t->Tryz.prog.wantsStandIn t=false:=by
 obtain rfl:f=3:=Option.some.inj (cfn.symm.trans hf) |>.symm;obtain rfl:fn=Tryz.f3:=(Option.some.inj (Tryz.func3.symm.trans hfn)).symm;exact ⟨cfl,fun j t ht=>by
  rw [cfp] at ht;have hm:t∈[25,26]:=by simpa using Array.mem_of_getElem? ht
  exact (show Tryz.prog.wantsStandIn t=false by simpa using List.all_eq_true.1 cfs t hm)⟩
theorem gradeCorners_holds:Rows.GradeCornersCardSaid :=
 Claim7.holds_tied_plain_at .later [] [.data,.data,.data,.data,.sentinel,.sentinel,.pinned] true (true,"505986cd1c4e26e70400ef1b259fb2d1e786ac6db90d4cbc0260bf70ef9d4331") true
  row_holds (fun _ h=>by cases h) cfw (fun _ h=>by cases h) gradeCorners_row_tie rfl ⟨rfl,rfl⟩ cfm rfl cfh cfg
#print axioms gradeCorners_holds
end Go.Proofs.YtpehlicnhjoknacGreatDoor
