/- TerminalLogs holds of the given program: for every log and event the call returns true, and its arguments read as before. Conditions: none beyond the row's own (the listed variables read as the card ties them). -/
import Derived.Test.YtmpdcldckjeklacGreatDoorAE23
import Derived.Test.YtmpdcldckjeklacGreatDoorCards
import Derived.Test.YtmpdcldckjeklacGreatDoorTie
import Derived.SevenTiedAt
import Derived.KernelRfl
namespace Go.Proofs.YtmpdcldckjeklacGreatDoor
open Go
theorem cfw:Rows.terminalLogsRow.wfByText (OpenSpec.ofChange Rows.terminalLogsSpec)=true:=by kernel_rfl
theorem cfm:Tryz.pinned.checked.prog.mainIs=some (true,"ef1375771270021129467cf1ead1735369106ebd9298cf70a263c651c6879d5a".toList):=by kernel_rfl
theorem cfn:Tryz.prog.funcNamed "bushel/bushellaw10.TerminalLogs" = some 3:=by kernel_rfl
theorem cfp:Tryz.f3.params = #[9,25]:=by kernel_rfl
theorem cfl:true=Tryz.prog.looks []:=by kernel_rfl
theorem cfs:([9,25].all fun u=>!Tryz.prog.wantsStandIn u)=true:=by kernel_rfl
theorem cfg:false=Rows.terminalLogsRow.goesBy Tryz.pinned.checked.prog:=by kernel_rfl
theorem cfh (f:FuncId) (fn:Func) (hf:Tryz.prog.funcNamed "bushel/bushellaw10.TerminalLogs" = some f) (hfn:Tryz.prog.funcs[f]? = some fn):true=Tryz.prog.looks []/\∀ (j:Nat) t,fn.params[j]? = some t->Tryz.prog.wantsStandIn t=false:=by
 obtain rfl:f=3:=Option.some.inj (cfn.symm.trans hf) |>.symm;obtain rfl:fn=Tryz.f3:=(Option.some.inj (Tryz.func3.symm.trans hfn)).symm;exact ⟨cfl,fun j t ht=>by
  rw [cfp] at ht;have hm:t∈[9,25]:=by simpa using Array.mem_of_getElem? ht
  exact (show Tryz.prog.wantsStandIn t=false by simpa using List.all_eq_true.1 cfs t hm)⟩
theorem terminalLogs_holds:Rows.TerminalLogsCardSaid :=
 Claim7.holds_tied_plain_at .later [] [.data,.data,.data,.data,.sentinel,.sentinel,.pinned] true (true,"ef1375771270021129467cf1ead1735369106ebd9298cf70a263c651c6879d5a") true
  row_holds (fun _ h=>by cases h) cfw (fun _ h=>by cases h) terminalLogs_row_tie rfl ⟨rfl,rfl⟩ cfm rfl cfh cfg
#print axioms terminalLogs_holds
end Go.Proofs.YtmpdcldckjeklacGreatDoor
