/- BinLimits holds of the given program: for every bin and cell the call returns true, and its arguments read as before. Conditions: none beyond the row's own (the listed variables read as the card ties them). -/
import Derived.Test.YteeceibhhdapaaaGreatDoorX14
import Derived.Test.YteeceibhhdapaaaGreatDoorCards
import Derived.Test.YteeceibhhdapaaaGreatDoorTie
import Derived.SevenTiedAt
import Derived.KernelRfl
namespace Go.Proofs.YteeceibhhdapaaaGreatDoor
open Go
theorem cfw:Rows.binLimitsRow.wfByText (OpenSpec.ofChange Rows.binLimitsSpec)=true:=by kernel_rfl
theorem cfm:Tryz.pinned.checked.prog.mainIs=some (true,"0f4b33d6a16b850743a780d922e79e4ac9c345b7223bf438242b66b51ebae1a9".toList):=by kernel_rfl
theorem cfn:Tryz.prog.funcNamed "bushel/bushellaw04.BinLimits" = some 4:=by kernel_rfl
theorem cfp:Tryz.f4.params = #[48,3]:=by kernel_rfl
theorem cfl:true=Tryz.prog.looks []:=by kernel_rfl
theorem cfs:([48,3].all fun u=>!Tryz.prog.wantsStandIn u)=true:=by kernel_rfl
theorem cfg:false=Rows.binLimitsRow.goesBy Tryz.pinned.checked.prog:=by kernel_rfl
theorem cfh (f:FuncId) (fn:Func) (hf:Tryz.prog.funcNamed "bushel/bushellaw04.BinLimits" = some f) (hfn:Tryz.prog.funcs[f]? = some fn):true=Tryz.prog.looks []/\∀ (j:Nat) t,fn.params[j]? = some t->Tryz.prog.wantsStandIn t=false:=by
 obtain rfl:f=4:=Option.some.inj (cfn.symm.trans hf) |>.symm;obtain rfl:fn=Tryz.f4:=(Option.some.inj (Tryz.func4.symm.trans hfn)).symm;exact ⟨cfl,fun j t ht=>by
  rw [cfp] at ht;have hm:t∈[48,3]:=by simpa using Array.mem_of_getElem? ht
  exact (show Tryz.prog.wantsStandIn t=false by simpa using List.all_eq_true.1 cfs t hm)⟩
theorem binLimits_holds:Rows.BinLimitsCardSaid :=
 Claim7.holds_tied_plain_at .later [] [.data,.data,.data,.data,.sentinel,.sentinel,.pinned] true (true,"0f4b33d6a16b850743a780d922e79e4ac9c345b7223bf438242b66b51ebae1a9") true
  row_holds (fun _ h=>by cases h) cfw (fun _ h=>by cases h) binLimits_row_tie rfl ⟨rfl,rfl⟩ cfm rfl cfh cfg
#print axioms binLimits_holds
end Go.Proofs.YteeceibhhdapaaaGreatDoor
