/- BinSplits holds of the given program: for all parcels and masses the call returns true, and its arguments read as before. Conditions: none beyond the row's own (the listed variables read as the card ties them). -/
import Derived.Test.YteeceibhhdapaaaGreatDoorV14
import Derived.Test.YteeceibhhdapaaaGreatDoorCards
import Derived.Test.YteeceibhhdapaaaGreatDoorTie
import Derived.SevenTiedAt
import Derived.KernelRfl
namespace Go.Proofs.YteeceibhhdapaaaGreatDoor
open Go
theorem cfw:Rows.binSplitsRow.wfByText (OpenSpec.ofChange Rows.binSplitsSpec)=true:=by kernel_rfl
theorem cfm:Tryz.pinned.checked.prog.mainIs=some (true,"0f4b33d6a16b850743a780d922e79e4ac9c345b7223bf438242b66b51ebae1a9".toList):=by kernel_rfl
theorem cfn:Tryz.prog.funcNamed "bushel/bushellaw04.BinSplits" = some 8:=by kernel_rfl
theorem cfp:Tryz.f8.params = #[22,22,3]:=by kernel_rfl
theorem cfl:true=Tryz.prog.looks []:=by kernel_rfl
theorem cfs:([22,22,3].all fun u=>!Tryz.prog.wantsStandIn u)=true:=by kernel_rfl
theorem cfg:false=Rows.binSplitsRow.goesBy Tryz.pinned.checked.prog:=by kernel_rfl
theorem cfh (f:FuncId) (fn:Func) (hf:Tryz.prog.funcNamed "bushel/bushellaw04.BinSplits" = some f) (hfn:Tryz.prog.funcs[f]? = some fn):true=Tryz.prog.looks []/\∀ (j:Nat) t,fn.params[j]? = some t->Tryz.prog.wantsStandIn t=false:=by
 obtain rfl:f=8:=Option.some.inj (cfn.symm.trans hf) |>.symm;obtain rfl:fn=Tryz.f8:=(Option.some.inj (Tryz.func8.symm.trans hfn)).symm;exact ⟨cfl,fun j t ht=>by
  rw [cfp] at ht;have hm:t∈[22,22,3]:=by simpa using Array.mem_of_getElem? ht
  exact (show Tryz.prog.wantsStandIn t=false by simpa using List.all_eq_true.1 cfs t hm)⟩
theorem binSplits_holds:Rows.BinSplitsCardSaid :=
 Claim7.holds_tied_plain_at .later [] [.data,.data,.data,.data,.sentinel,.sentinel,.pinned] true (true,"0f4b33d6a16b850743a780d922e79e4ac9c345b7223bf438242b66b51ebae1a9") true
  row_holds (fun _ h=>by cases h) cfw (fun _ h=>by cases h) binSplits_row_tie rfl ⟨rfl,rfl⟩ cfm rfl cfh cfg
#print axioms binSplits_holds
end Go.Proofs.YteeceibhhdapaaaGreatDoor
