/- GradeGaps holds of the given program: for all probes and sides the call returns true, and its arguments read as before. Conditions: none beyond the row's own (the listed variables read as the card ties them). -/
import Derived.Test.YtpehlicnhjoknabGreatDoorP15
import Derived.Test.YtpehlicnhjoknabGreatDoorCards
import Derived.Test.YtpehlicnhjoknabGreatDoorTie
import Derived.SevenTiedAt
import Derived.KernelRfl
namespace Go.Proofs.YtpehlicnhjoknabGreatDoor
open Go
theorem cfw:Rows.gradeGapsRow.wfByText (OpenSpec.ofChange Rows.gradeGapsSpec)=true:=by kernel_rfl
theorem cfm:Tryz.pinned.checked.prog.mainIs=some (true,"c2d4a1ab1c1dbbe9ec67c7a0a20c5cc0ec5f2612984e03008d35535ae75039b8".toList):=by kernel_rfl
theorem cfn:Tryz.prog.funcNamed "bushel/bushellaw02.GradeGaps" = some 3:=by kernel_rfl
theorem cfp:Tryz.f3.params = #[22,23]:=by kernel_rfl
theorem cfl:true=Tryz.prog.looks []:=by kernel_rfl
theorem cfs:([22,23].all fun u=>!Tryz.prog.wantsStandIn u)=true:=by kernel_rfl
theorem cfg:false=Rows.gradeGapsRow.goesBy Tryz.pinned.checked.prog:=by kernel_rfl
theorem cfh (f:FuncId) (fn:Func) (hf:Tryz.prog.funcNamed "bushel/bushellaw02.GradeGaps" = some f) (hfn:Tryz.prog.funcs[f]? = some fn):true=Tryz.prog.looks []∧∀ (j:Nat) t,fn.params[j]? = some t→Tryz.prog.wantsStandIn t=false:=by
 obtain rfl:f=3:=Option.some.inj (cfn.symm.trans hf) |>.symm;obtain rfl:fn=Tryz.f3:=(Option.some.inj (Tryz.func3.symm.trans hfn)).symm;exact ⟨cfl,fun j t ht=>by
  rw [cfp] at ht;have hm:t∈[22,23]:=by simpa using Array.mem_of_getElem? ht
  exact (show Tryz.prog.wantsStandIn t=false by simpa using List.all_eq_true.1 cfs t hm)⟩
theorem gradeGaps_holds:Rows.GradeGapsCardSaid :=
 Claim7.holds_tied_plain_at .later [] [.data,.data,.data,.data,.sentinel,.sentinel,.pinned] true (true,"c2d4a1ab1c1dbbe9ec67c7a0a20c5cc0ec5f2612984e03008d35535ae75039b8") true
  row_holds (fun _ h=>by cases h) cfw (fun _ h=>by cases h) gradeGaps_row_tie rfl ⟨rfl,rfl⟩ cfm rfl cfh cfg
#print axioms gradeGaps_holds
end Go.Proofs.YtpehlicnhjoknabGreatDoor
