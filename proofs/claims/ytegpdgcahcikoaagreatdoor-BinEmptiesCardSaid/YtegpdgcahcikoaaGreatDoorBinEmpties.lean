/- BinEmpties holds of the given program: for every bin the call returns true, and its argument reads as before. Conditions: none beyond the row's own (the listed variables read as the card ties them). -/
import Derived.Test.YtegpdgcahcikoaaGreatDoorO15
import Derived.Test.YtegpdgcahcikoaaGreatDoorCards
import Derived.Test.YtegpdgcahcikoaaGreatDoorTie
import Derived.SevenTiedAt
import Derived.KernelRfl
namespace Go.Proofs.YtegpdgcahcikoaaGreatDoor
open Go
theorem cfw:Rows.binEmptiesRow.wfByText (OpenSpec.ofChange Rows.binEmptiesSpec)=true:=by kernel_rfl
theorem cfm:Tryz.pinned.checked.prog.mainIs=some (true,"fce0d88e9b1f3f40cded6335f79931041f2ac798ee54c13be1158ec74f7215b0".toList):=by kernel_rfl
theorem cfn:Tryz.prog.funcNamed "bushel/bushellaw04.BinEmpties" = some 3:=by kernel_rfl
theorem cfp:Tryz.f3.params = #[24]:=by kernel_rfl
theorem cfl:true=Tryz.prog.looks []:=by kernel_rfl
theorem cfs:([24].all fun u=>!Tryz.prog.wantsStandIn u)=true:=by kernel_rfl
theorem cfg:false=Rows.binEmptiesRow.goesBy Tryz.pinned.checked.prog:=by kernel_rfl
theorem cfh (f:FuncId) (fn:Func) (hf:Tryz.prog.funcNamed "bushel/bushellaw04.BinEmpties" = some f) (hfn:Tryz.prog.funcs[f]? = some fn):true=Tryz.prog.looks []/\∀ (j:Nat) t,fn.params[j]? = some t->Tryz.prog.wantsStandIn t=false:=by
 obtain rfl:f=3:=Option.some.inj (cfn.symm.trans hf) |>.symm;obtain rfl:fn=Tryz.f3:=(Option.some.inj (Tryz.func3.symm.trans hfn)).symm;exact ⟨cfl,fun j t ht=>by
  rw [cfp] at ht;have hm:t∈[24]:=by simpa using Array.mem_of_getElem? ht
  exact (show Tryz.prog.wantsStandIn t=false by simpa using List.all_eq_true.1 cfs t hm)⟩
theorem binEmpties_holds:Rows.BinEmptiesCardSaid :=
 Claim7.holds_tied_plain_at .later [] [.data,.data,.data,.data,.sentinel,.sentinel,.pinned] true (true,"fce0d88e9b1f3f40cded6335f79931041f2ac798ee54c13be1158ec74f7215b0") true
  row_holds (fun _ h=>by cases h) cfw (fun _ h=>by cases h) binEmpties_row_tie rfl ⟨rfl,rfl⟩ cfm rfl cfh cfg
#print axioms binEmpties_holds
end Go.Proofs.YtegpdgcahcikoaaGreatDoor
