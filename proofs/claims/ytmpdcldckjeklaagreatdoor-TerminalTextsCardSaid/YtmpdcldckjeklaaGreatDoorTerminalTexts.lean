/- TerminalTexts holds of the given program: for every text the call returns true, and its argument reads as before. Conditions: none beyond the row's own (the listed variables read as the card ties them). -/
import Derived.Test.YtmpdcldckjeklaaGreatDoorAC17
import Derived.Test.YtmpdcldckjeklaaGreatDoorCards
import Derived.Test.YtmpdcldckjeklaaGreatDoorTie
import Derived.SevenTiedAt
import Derived.KernelRfl
namespace Go.Proofs.YtmpdcldckjeklaaGreatDoor
open Go
theorem cfw:Rows.terminalTextsRow.wfByText (OpenSpec.ofChange Rows.terminalTextsSpec)=true:=by kernel_rfl
theorem cfm:Tryz.pinned.checked.prog.mainIs=some (true,"99bd0c17cdc57299cb9f72dbaf2b77fffc7dd2a6a2f16e186bf03ca33d9644f9".toList):=by kernel_rfl
theorem cfn:Tryz.prog.funcNamed "bushel/bushellaw10.TerminalTexts" = some 3:=by kernel_rfl
theorem cfp:Tryz.f3.params = #[9]:=by kernel_rfl
theorem cfl:true=Tryz.prog.looks []:=by kernel_rfl
theorem cfs:([9].all fun u=>!Tryz.prog.wantsStandIn u)=true:=by kernel_rfl
theorem cfg:false=Rows.terminalTextsRow.goesBy Tryz.pinned.checked.prog:=by kernel_rfl
theorem cfh (f:FuncId) (fn:Func) (hf:Tryz.prog.funcNamed "bushel/bushellaw10.TerminalTexts" = some f) (hfn:Tryz.prog.funcs[f]? = some fn):true=Tryz.prog.looks []/\∀ (j:Nat) t,fn.params[j]? = some t->Tryz.prog.wantsStandIn t=false:=by
 obtain rfl:f=3:=Option.some.inj (cfn.symm.trans hf) |>.symm;obtain rfl:fn=Tryz.f3:=(Option.some.inj (Tryz.func3.symm.trans hfn)).symm;exact ⟨cfl,fun j t ht=>by
  rw [cfp] at ht;have hm:t∈[9]:=by simpa using Array.mem_of_getElem? ht
  exact (show Tryz.prog.wantsStandIn t=false by simpa using List.all_eq_true.1 cfs t hm)⟩
theorem terminalTexts_holds:Rows.TerminalTextsCardSaid :=
 Claim7.holds_tied_plain_at .later [] [.data,.data,.data,.data,.sentinel,.sentinel,.pinned] true (true,"99bd0c17cdc57299cb9f72dbaf2b77fffc7dd2a6a2f16e186bf03ca33d9644f9") true
  row_holds (fun _ h=>by cases h) cfw (fun _ h=>by cases h) terminalTexts_row_tie rfl ⟨rfl,rfl⟩ cfm rfl cfh cfg
#print axioms terminalTexts_holds
end Go.Proofs.YtmpdcldckjeklaaGreatDoor
