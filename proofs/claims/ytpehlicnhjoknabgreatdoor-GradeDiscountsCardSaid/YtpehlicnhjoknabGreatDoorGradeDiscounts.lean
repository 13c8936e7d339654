/- GradeDiscounts holds of the given program: for every scheme and every question the call returns true, and its arguments read as before. Conditions: none beyond the row's own (the listed variables read as the card ties them). -/
import Derived.Test.YtpehlicnhjoknabGreatDoorP15
import Derived.Test.YtpehlicnhjoknabGreatDoorCards
import Derived.Test.YtpehlicnhjoknabGreatDoorTie
namespace Go.Proofs.YtpehlicnhjoknabGreatDoor
open Go
theorem cfw:Rows.gradeDiscountsRow.wfByText (OpenSpec.ofChange Rows.gradeDiscountsSpec)=true:=by kernel_rfl
theorem cfm:Tryz.pinned.checked.prog.mainIs=some (true,"c2d4a1ab1c1dbbe9ec67c7a0a20c5cc0ec5f2612984e03008d35535ae75039b8".toList):=by kernel_rfl
theorem cfn:Tryz.prog.funcNamed "bushel/bushellaw02.GradeDiscounts" = some 4:=by kernel_rfl
theorem cfp:Tryz.f4.params = #[39,43]:=by kernel_rfl
theorem cfl:true=Tryz.prog.looks []:=by kernel_rfl
theorem cfs:([39,43].all fun u=>!Tryz.prog.wantsStandIn u)=true:=by kernel_rfl
theorem cfg:false=Rows.gradeDiscountsRow.goesBy Tryz.pinned.checked.prog:=by kernel_rfl
theorem cfh (f:FuncId) (fn:Func) (hf:Tryz.prog.funcNamed "bushel/bushellaw02.GradeDiscounts" = some f) (hfn:Tryz.prog.funcs[f]? = some fn):true=Tryz.prog.looks []∧∀ (j:Nat) t,fn.params[j]? = some t→Tryz.prog.wantsStandIn t=false:=by
 obtain rfl:f=4:=Option.some.inj (cfn.symm.trans hf) |>.symm;obtain rfl:fn=Tryz.f4:=(Option.some.inj (Tryz.func4.symm.trans hfn)).symm;exact ⟨cfl,fun j t ht=>by
  rw [cfp] at ht;have hm:t∈[39,43]:=by simpa using Array.mem_of_getElem? ht
  exact (show Tryz.prog.wantsStandIn t=false by simpa using List.all_eq_true.1 cfs t hm)⟩
theorem gradeDiscounts_holds:Rows.GradeDiscountsCardSaid :=
 Claim7.holds_tied_plain_at .later [] [.data,.data,.data,.data,.sentinel,.sentinel,.pinned] true (true,"c2d4a1ab1c1dbbe9ec67c7a0a20c5cc0ec5f2612984e03008d35535ae75039b8") true
  row_holds (fun _ h=>by cases h) cfw (fun _ h=>by cases h) gradeDiscounts_row_tie rfl ⟨rfl,rfl⟩ cfm rfl cfh cfg
#print axioms gradeDiscounts_holds
end Go.Proofs.YtpehlicnhjoknabGreatDoor
