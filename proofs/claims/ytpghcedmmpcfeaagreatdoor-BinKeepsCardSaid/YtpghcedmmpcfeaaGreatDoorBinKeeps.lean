/- BinKeeps holds of the given program: for every bin and draw the call returns true, and its arguments read as before. Conditions: none beyond the row's own (the listed variables read as the card ties them). -/
import Derived.Test.YtpghcedmmpcfeaaGreatDoorS15
import Derived.Test.YtpghcedmmpcfeaaGreatDoorCards
import Derived.Test.YtpghcedmmpcfeaaGreatDoorTie
import Derived.SevenTiedAt
import Derived.KernelRfl
namespace Go.Proofs.YtpghcedmmpcfeaaGreatDoor
open Go
theorem cfw:Rows.binKeepsRow.wfByText (OpenSpec.ofChange Rows.binKeepsSpec)=true:=by kernel_rfl
theorem cfm:Tryz.pinned.checked.prog.mainIs=some (true,"8dc3412b9d3aeb6abd4756ee3f3c470bc68b442a6d04cc1e20ad7ad93b584ac8".toList):=by kernel_rfl
theorem cfn:Tryz.prog.funcNamed "bushel/bushellaw04.BinKeeps" = some 3:=by kernel_rfl
theorem cfp:Tryz.f3.params = #[24,26]:=by kernel_rfl
theorem cfl:true=Tryz.prog.looks []:=by kernel_rfl
theorem cfs:([24,26].all fun u=>!Tryz.prog.wantsStandIn u)=true:=by kernel_rfl
theorem cfg:false=Rows.binKeepsRow.goesBy Tryz.pinned.checked.prog:=by kernel_rfl
theorem cfh (f:FuncId) (fn:Func) (hf:Tryz.prog.funcNamed "bushel/bushellaw04.BinKeeps" = some f) (hfn:Tryz.prog.funcs[f]? = some fn):true=Tryz.prog.looks []/\∀ (j:Nat) t,fn.params[j]? = some t->Tryz.prog.wantsStandIn t=false:=by
 obtain rfl:f=3:=Option.some.inj (cfn.symm.trans hf) |>.symm;obtain rfl:fn=Tryz.f3:=(Option.some.inj (Tryz.func3.symm.trans hfn)).symm;exact ⟨cfl,fun j t ht=>by
  rw [cfp] at ht;have hm:t∈[24,26]:=by simpa using Array.mem_of_getElem? ht
  exact (show Tryz.prog.wantsStandIn t=false by simpa using List.all_eq_true.1 cfs t hm)⟩
theorem binKeeps_holds:Rows.BinKeepsCardSaid :=
 Claim7.holds_tied_plain_at .later [] [.data,.data,.data,.data,.sentinel,.sentinel,.pinned] true (true,"8dc3412b9d3aeb6abd4756ee3f3c470bc68b442a6d04cc1e20ad7ad93b584ac8") true
  row_holds (fun _ h=>by cases h) cfw (fun _ h=>by cases h) binKeeps_row_tie rfl ⟨rfl,rfl⟩ cfm rfl cfh cfg
#print axioms binKeeps_holds
end Go.Proofs.YtpghcedmmpcfeaaGreatDoor
