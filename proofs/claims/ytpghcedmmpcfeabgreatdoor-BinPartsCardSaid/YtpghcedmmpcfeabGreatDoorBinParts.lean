/- BinParts holds of the given program: for every bin, draw and part the call returns true, and its arguments read as before. Conditions: none beyond the row's own (the listed variables read as the card ties them). -/
import Derived.Test.YtpghcedmmpcfeabGreatDoorP15
import Derived.Test.YtpghcedmmpcfeabGreatDoorCards
import Derived.Test.YtpghcedmmpcfeabGreatDoorTie
import Derived.SevenTiedAt
import Derived.KernelRfl
namespace Go.Proofs.YtpghcedmmpcfeabGreatDoor
open Go
theorem cfw:Rows.binPartsRow.wfByText (OpenSpec.ofChange Rows.binPartsSpec)=true:=by kernel_rfl
theorem cfm:Tryz.pinned.checked.prog.mainIs=some (true,"4ec118f4c1eaefc6fa9b58c62b802b3ed4512d222f6b17d65751c167d57a1a79".toList):=by kernel_rfl
theorem cfn:Tryz.prog.funcNamed "bushel/bushellaw04.BinParts" = some 3:=by kernel_rfl
theorem cfp:Tryz.f3.params = #[24,26,27]:=by kernel_rfl
theorem cfl:true=Tryz.prog.looks []:=by kernel_rfl
theorem cfs:([24,26,27].all fun u=>!Tryz.prog.wantsStandIn u)=true:=by kernel_rfl
theorem cfg:false=Rows.binPartsRow.goesBy Tryz.pinned.checked.prog:=by kernel_rfl
theorem cfh (f:FuncId) (fn:Func) (hf:Tryz.prog.funcNamed "bushel/bushellaw04.BinParts" = some f) (hfn:Tryz.prog.funcs[f]? = some fn):true=Tryz.prog.looks []/\∀ (j:Nat) t,fn.params[j]? = some t->Tryz.prog.wantsStandIn t=false:=by
 obtain rfl:f=3:=Option.some.inj (cfn.symm.trans hf) |>.symm;obtain rfl:fn=Tryz.f3:=(Option.some.inj (Tryz.func3.symm.trans hfn)).symm;exact ⟨cfl,fun j t ht=>by
  rw [cfp] at ht;have hm:t∈[24,26,27]:=by simpa using Array.mem_of_getElem? ht
  exact (show Tryz.prog.wantsStandIn t=false by simpa using List.all_eq_true.1 cfs t hm)⟩
theorem binParts_holds:Rows.BinPartsCardSaid :=
 Claim7.holds_tied_plain_at .later [] [.data,.data,.data,.data,.sentinel,.sentinel,.pinned] true (true,"4ec118f4c1eaefc6fa9b58c62b802b3ed4512d222f6b17d65751c167d57a1a79") true
  row_holds (fun _ h=>by cases h) cfw (fun _ h=>by cases h) binParts_row_tie rfl ⟨rfl,rfl⟩ cfm rfl cfh cfg
#print axioms binParts_holds
end Go.Proofs.YtpghcedmmpcfeabGreatDoor
