/- BinLots holds of the given program: for every bin, cell and lot the call returns true, and its arguments read as before. Conditions: none beyond the row's own (the listed variables read as the card ties them). -/
import Derived.Test.YtaoojbnciofmcaaGreatDoorAA15
import Derived.Test.YtaoojbnciofmcaaGreatDoorCards
import Derived.Test.YtaoojbnciofmcaaGreatDoorTie
import Derived.SevenTiedAt
import Derived.KernelRfl
namespace Go.Proofs.YtaoojbnciofmcaaGreatDoor
open Go
theorem cfw:Rows.binLotsRow.wfByText (OpenSpec.ofChange Rows.binLotsSpec)=true:=by kernel_rfl
theorem cfm:Tryz.pinned.checked.prog.mainIs=some (true,"761372c2bfafc5b648a237f8a7e51f3d035bdd35cf2e9996bdd140e854c6db1b".toList):=by kernel_rfl
theorem cfn:Tryz.prog.funcNamed "bushel/bushellaw04.BinLots" = some 3:=by kernel_rfl
theorem cfp:Tryz.f3.params = #[24,3,9]:=by kernel_rfl
theorem cfl:true=Tryz.prog.looks []:=by kernel_rfl
theorem cfs:([24,3,9].all fun u=>!Tryz.prog.wantsStandIn u)=true:=by kernel_rfl
theorem cfg:false=Rows.binLotsRow.goesBy Tryz.pinned.checked.prog:=by kernel_rfl
theorem cfh (f:FuncId) (fn:Func) (hf:Tryz.prog.funcNamed "bushel/bushellaw04.BinLots" = some f) (hfn:Tryz.prog.funcs[f]? = some fn):true=Tryz.prog.looks []/\∀ (j:Nat) t,fn.params[j]? = some t->Tryz.prog.wantsStandIn t=false:=by
 obtain rfl:f=3:=Option.some.inj (cfn.symm.trans hf) |>.symm;obtain rfl:fn=Tryz.f3:=(Option.some.inj (Tryz.func3.symm.trans hfn)).symm;exact ⟨cfl,fun j t ht=>by
  rw [cfp] at ht;have hm:t∈[24,3,9]:=by simpa using Array.mem_of_getElem? ht
  exact (show Tryz.prog.wantsStandIn t=false by simpa using List.all_eq_true.1 cfs t hm)⟩
theorem binLots_holds:Rows.BinLotsCardSaid :=
 Claim7.holds_tied_plain_at .later [] [.data,.data,.data,.data,.sentinel,.sentinel,.pinned] true (true,"761372c2bfafc5b648a237f8a7e51f3d035bdd35cf2e9996bdd140e854c6db1b") true
  row_holds (fun _ h=>by cases h) cfw (fun _ h=>by cases h) binLots_row_tie rfl ⟨rfl,rfl⟩ cfm rfl cfh cfg
#print axioms binLots_holds
end Go.Proofs.YtaoojbnciofmcaaGreatDoor
