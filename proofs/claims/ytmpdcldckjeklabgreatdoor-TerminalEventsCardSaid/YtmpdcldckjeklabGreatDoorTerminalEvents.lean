/- TerminalEvents holds of the given program: for every event the call returns true, and its argument reads as before. Conditions: none beyond the row's own (the listed variables read as the card ties them). -/
import Derived.Test.YtmpdcldckjeklabGreatDoorAD21
import Derived.Test.YtmpdcldckjeklabGreatDoorCards
import Derived.Test.YtmpdcldckjeklabGreatDoorTie
import Derived.SevenTiedAt
import Derived.KernelRfl
namespace Go.Proofs.YtmpdcldckjeklabGreatDoor
open Go
theorem cfw:Rows.terminalEventsRow.wfByText (OpenSpec.ofChange Rows.terminalEventsSpec)=true:=by kernel_rfl
theorem cfm:Tryz.pinned.checked.prog.mainIs=some (true,"0d5c2a90a927ff3b5380925fdf51b316bcb3361c5addc6dc68f9bdadbbe7f027".toList):=by kernel_rfl
theorem cfn:Tryz.prog.funcNamed "bushel/bushellaw10.TerminalEvents" = some 3:=by kernel_rfl
theorem cfp:Tryz.f3.params = #[25]:=by kernel_rfl
theorem cfl:true=Tryz.prog.looks []:=by kernel_rfl
theorem cfs:([25].all fun u=>!Tryz.prog.wantsStandIn u)=true:=by kernel_rfl
theorem cfg:false=Rows.terminalEventsRow.goesBy Tryz.pinned.checked.prog:=by kernel_rfl
theorem cfh (f:FuncId) (fn:Func) (hf:Tryz.prog.funcNamed "bushel/bushellaw10.TerminalEvents" = some f) (hfn:Tryz.prog.funcs[f]? = some fn):true=Tryz.prog.looks []/\∀ (j:Nat) t,fn.params[j]? = some t->Tryz.prog.wantsStandIn t=false:=by
 obtain rfl:f=3:=Option.some.inj (cfn.symm.trans hf) |>.symm;obtain rfl:fn=Tryz.f3:=(Option.some.inj (Tryz.func3.symm.trans hfn)).symm;exact ⟨cfl,fun j t ht=>by
  rw [cfp] at ht;have hm:t∈[25]:=by simpa using Array.mem_of_getElem? ht
  exact (show Tryz.prog.wantsStandIn t=false by simpa using List.all_eq_true.1 cfs t hm)⟩
theorem terminalEvents_holds:Rows.TerminalEventsCardSaid :=
 Claim7.holds_tied_plain_at .later [] [.data,.data,.data,.data,.sentinel,.sentinel,.pinned] true (true,"0d5c2a90a927ff3b5380925fdf51b316bcb3361c5addc6dc68f9bdadbbe7f027") true
  row_holds (fun _ h=>by cases h) cfw (fun _ h=>by cases h) terminalEvents_row_tie rfl ⟨rfl,rfl⟩ cfm rfl cfh cfg
#print axioms terminalEvents_holds
end Go.Proofs.YtmpdcldckjeklabGreatDoor
