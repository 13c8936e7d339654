/- GradePoints holds of the given program: for all probes, sides and a point the call returns true, and its arguments read as before. Conditions: none beyond the row's own (the listed variables read as the card ties them). -/
import Derived.Test.YtpehlicnhjoknaaGreatDoorP15
import Derived.Test.YtpehlicnhjoknaaGreatDoorCards
import Derived.Test.YtpehlicnhjoknaaGreatDoorTie
import Derived.SevenTiedAt
import Derived.KernelRfl
namespace Go.Proofs.YtpehlicnhjoknaaGreatDoor
open Go
theorem cfw:Rows.gradePointsRow.wfByText (OpenSpec.ofChange Rows.gradePointsSpec)=true:=by kernel_rfl
theorem cfm:Tryz.pinned.checked.prog.mainIs=some (true,"ee80de4e3a4d5936c0054a4b252ead706de1574ddd736b3e5086f59afa70011b".toList):=by kernel_rfl
theorem cfn:Tryz.prog.funcNamed "bushel/bushellaw02.GradePoints" = some 7:=by kernel_rfl
theorem cfp:Tryz.f7.params = #[29,73,75]:=by kernel_rfl
theorem cfl:true=Tryz.prog.looks []:=by kernel_rfl
theorem cfs:([29,73,75].all fun u=>!Tryz.prog.wantsStandIn u)=true:=by kernel_rfl
theorem cfg:false=Rows.gradePointsRow.goesBy Tryz.pinned.checked.prog:=by kernel_rfl
theorem cfh (f:FuncId) (fn:Func) (hf:Tryz.prog.funcNamed "bushel/bushellaw02.GradePoints" = some f) (hfn:Tryz.prog.funcs[f]? = some fn):true=Tryz.prog.looks []∧∀ (j:Nat) t,fn.params[j]? = some t→Tryz.prog.wantsStandIn t=false:=by
 obtain rfl:f=7:=Option.some.inj (cfn.symm.trans hf) |>.symm;obtain rfl:fn=Tryz.f7:=(Option.some.inj (Tryz.func7.symm.trans hfn)).symm;exact ⟨cfl,fun j t ht=>by
  rw [cfp] at ht;have hm:t∈[29,73,75]:=by simpa using Array.mem_of_getElem? ht
  exact (show Tryz.prog.wantsStandIn t=false by simpa using List.all_eq_true.1 cfs t hm)⟩
theorem gradePoints_holds:Rows.GradePointsCardSaid :=
 Claim7.holds_tied_plain_at .later [] [.data,.data,.data,.data,.sentinel,.sentinel,.pinned] true (true,"ee80de4e3a4d5936c0054a4b252ead706de1574ddd736b3e5086f59afa70011b") true
  row_holds (fun _ h=>by cases h) cfw (fun _ h=>by cases h) gradePoints_row_tie rfl ⟨rfl,rfl⟩ cfm rfl cfh cfg
#print axioms gradePoints_holds
end Go.Proofs.YtpehlicnhjoknaaGreatDoor
