/- BinDraws holds of the given program: for every bin and draw the call returns true, and its arguments read as before. Conditions: none beyond the row's own (the listed variables read as the card ties them). -/
import Derived.Test.YtaoojbnciofmcabGreatDoorR15
import Derived.Test.YtaoojbnciofmcabGreatDoorCards
import Derived.Test.YtaoojbnciofmcabGreatDoorTie
import Derived.SevenTiedAt
import Derived.KernelRfl
namespace Go.Proofs.YtaoojbnciofmcabGreatDoor
open Go
theorem cfw:Rows.binDrawsRow.wfByText (OpenSpec.ofChange Rows.binDrawsSpec)=true:=by kernel_rfl
theorem cfm:Tryz.pinned.checked.prog.mainIs=some (true,"91660899b0d0b991f3fed95068a06a86115dbce07ad4b09db4d130c95958fd1a".toList):=by kernel_rfl
theorem cfn:Tryz.prog.funcNamed "bushel/bushellaw04.BinDraws" = some 3:=by kernel_rfl
theorem cfp:Tryz.f3.params = #[24,26]:=by kernel_rfl
theorem cfl:true=Tryz.prog.looks []:=by kernel_rfl
theorem cfs:([24,26].all fun u=>!Tryz.prog.wantsStandIn u)=true:=by kernel_rfl
theorem cfg:false=Rows.binDrawsRow.goesBy Tryz.pinned.checked.prog:=by kernel_rfl
theorem cfh (f:FuncId) (fn:Func) (hf:Tryz.prog.funcNamed "bushel/bushellaw04.BinDraws" = some f) (hfn:Tryz.prog.funcs[f]? = some fn):true=Tryz.prog.looks []/\∀ (j:Nat) t,fn.params[j]? = some t->Tryz.prog.wantsStandIn t=false:=by
 obtain rfl:f=3:=Option.some.inj (cfn.symm.trans hf) |>.symm;obtain rfl:fn=Tryz.f3:=(Option.some.inj (Tryz.func3.symm.trans hfn)).symm;exact ⟨cfl,fun j t ht=>by
  rw [cfp] at ht;have hm:t∈[24,26]:=by simpa using Array.mem_of_getElem? ht
  exact (show Tryz.prog.wantsStandIn t=false by simpa using List.all_eq_true.1 cfs t hm)⟩
theorem binDraws_holds:Rows.BinDrawsCardSaid :=
 Claim7.holds_tied_plain_at .later [] [.data,.data,.data,.data,.sentinel,.sentinel,.pinned] true (true,"91660899b0d0b991f3fed95068a06a86115dbce07ad4b09db4d130c95958fd1a") true
  row_holds (fun _ h=>by cases h) cfw (fun _ h=>by cases h) binDraws_row_tie rfl ⟨rfl,rfl⟩ cfm rfl cfh cfg
#print axioms binDraws_holds
end Go.Proofs.YtaoojbnciofmcabGreatDoor
